/-
  Proved facts that the law leans on.
-/
import Derived.Test.YtclpbhoekmecjaaGreatDoorZP5
namespace Go.Proofs.YtclpbhoekmecjaaGreatDoor
open Go.RowKit
set_option linter.unusedVariables false
set_option maxRecDepth 100000
set_option maxHeartbeats 4000000
attribute [local irreducible] az Der At
theorem wX {sig:List Ctl} {b:Big} (h:ay sig b=true) (by':Int) {ps:List Int} (hp:b.roots≤ps.length):∀n∈b.nodes,Dv by' ps n.parent:=by
 intro n hn
 obtain ⟨i,hi,rfl⟩:=List.mem_iff_getElem.1 hn
 have:=iP h i hi
 have:=aU h
 unfold Dv
 omega
theorem rD {sig:List Ctl} {b:Big} (h:ay sig b=true) (by':Int) {ps:List Int} (hp:b.roots≤ps.length):∀p∈b.sites,Dv by' ps p:=by
 intro p hp'
 have h3:=List.all_eq_true.1 (cN h).2.2.1 p hp'
 have:=aU h
 unfold fe dB at h3
 unfold Dv
 split at h3
 ·simp only [decide_eq_true_eq] at h3;omega
 ·simp only [Bool.and_eq_true,decide_eq_true_eq] at h3;omega
theorem wY {sig:List Ctl} {b:Big} (h:ay sig b=true) {ks:List Int} (hp:b.edges+b.outer.length≤ks.length):∀n∈b.nodes,∀l∈n.links,0≤l∧l<(ks.length:Int):=by
 intro n hn l hl
 obtain ⟨i,hi,rfl⟩:=List.mem_iff_getElem.1 hn
 have:=(eB h i hi).2.2.2.2 l hl
 unfold dJ at this
 have:=bL this
 omega
theorem ws {sig:List Ctl} {b:Big} (h:ay sig b=true) {ks:List Int} (hp:b.edges+b.outer.length≤ks.length):∀x∈b.inner,0≤x.link∧x.link<(ks.length:Int):=by
 intro x hx
 have:=List.all_eq_true.1 (cN h).2.2.2 x hx
 unfold fM dJ at this
 have:=bL this
 omega
theorem qW {sig:List Ctl} {b:Big} (h:ay sig b=true):∀n∈b.nodes,n.links.length≤1000:=by
 intro n hn
 obtain ⟨i,hi,rfl⟩:=List.mem_iff_getElem.1 hn
 exact (bG h).links i hi
def Cl (a b:Big) (outer:List ByteArray) (above below:List Int):Big:=
 ⟨a.roots,dc 0 (dg 0 a.roots.toNat) (eP 0 a.edges.toNat++above) a.nodes++dc a.nodes.length (dx 0 (dg 0 a.roots.toNat) a.sites) (eP a.edges b.edges.toNat++below) b.nodes,dx a.nodes.length (dx 0 (dg 0 a.roots.toNat) a.sites) b.sites,a.edges+b.edges,outer,dA (eP a.edges b.edges.toNat++below) b.inner⟩
theorem mK (m n:Int) (hn:0≤n∧n≤1000) (hm : -1000≤m∧m≤1000):FnD Tryz.prog 300 [.i m,.i n] (.row 1 3 ((dg m n.toNat).map .i)):=by
 obtain ⟨k,rfl⟩:=Int.eq_ofNat_of_zero_le hn.1
 exact AM m k (by omega) hm
theorem gM (m n:Int) (hn:0≤n∧n≤1000) (hm : -1000≤m∧m≤1000):FnD Tryz.prog 201 [.i m,.i n] (.row 1 3 ((eP m n.toNat).map .i)):=by
 obtain ⟨k,rfl⟩:=Int.eq_ofNat_of_zero_le hn.1
 exact yZ m k (by omega) hm
theorem AV {sig:List Ctl} {a b:Big} (hA:ay sig a=true) (hB:ay sig b=true) (hf:(a.sites.length:Int)=b.roots) (outer:List ByteArray) (above below:List Int) (hol:outer.length≤1000) (h1:above.length=a.outer.length) (h2:below.length=b.outer.length) :
 FnD Tryz.prog 266 [a.D,b.D,DS outer,DI above,DI below] (.d (Cl a b outer above below).D):=by
 have ha:=aU hA
 have hb:=aU hB
 have l1:=eK 0 a.edges.toNat
 have l2:=eK a.edges b.edges.toNat
 have l3:=lv 0 a.roots.toNat
 have l4:(dx 0 (dg 0 a.roots.toNat) a.sites).length=a.sites.length:=by unfold dx;rw [List.length_map]
 have f1:=mK 0 a.roots (by omega) (by omega)
 have f2:=gM 0 a.edges (by omega) (by omega)
 have f3:=gM a.edges b.edges (by omega) (by omega)
 have f4:=lz a 0 (dg 0 a.roots.toNat) (by omega) (rD hA 0 (by omega)) (by omega)
 have f5:=lS a 0 (dg 0 a.roots.toNat) (eP 0 a.edges.toNat++above) (by omega) (by omega) (qW hA) (wX hA 0 (by omega)) (wY hA (by rw [List.length_append];omega))
 have f6:=lS b a.nodes.length (dx 0 (dg 0 a.roots.toNat) a.sites) (eP a.edges b.edges.toNat++below) (by omega) (by omega) (qW hB) (wX hB _ (by omega)) (wY hB (by rw [List.length_append];omega))
 have f7:=lz b a.nodes.length (dx 0 (dg 0 a.roots.toNat) a.sites) (by omega) (rD hB _ (by omega)) (by omega)
 have f8:=oy b (eP a.edges b.edges.toNat++below) (ws hB (by rw [List.length_append];omega)) (by omega)
 have q1:(dc 0 (dg 0 a.roots.toNat) (eP 0 a.edges.toNat++above) a.nodes).length≤1000:=by unfold dc;rw [List.length_map];omega
 have q2:(dc a.nodes.length (dx 0 (dg 0 a.roots.toNat) a.sites) (eP a.edges b.edges.toNat++below) b.nodes).length≤1000:=by unfold dc;rw [List.length_map];omega
 refine ai Tryz.func266 (fun hw W0=>?_)
 repeat (first|refine cFz 11 ?_|refine cFz 12 ?_|refine cFz 13 ?_|refine cFz 14 ?_|(refine ck ?_;first|refine bd ?_|refine cC ?_|refine bo ?_|refine bl ?_|refine aY ?_|refine br ?_|refine bw ?_|refine aK ?_|refine bp ?_)|(refine gv ?_;first|refine cd ?_|refine gg ?_|refine ct ?_|refine cz ?_)|(refine gj ?_;first|refine eV (fun _=>?_)|refine cu ?_|refine cq ?_|refine bT ?_|refine ci ?_|refine cw ?_)|(refine gu ?_;first|refine cK ?_|refine fy ?_|refine cH ?_|refine bY ?_|refine cF ?_|refine cE ?_)|(refine fV ?_;first|refine gq ?_|refine fQ ?_|refine ch ?_|refine cb ?_|refine fZ ?_|refine bf ?_|refine bm ?_)|(refine cm ?_;first|refine be ?_|refine cI ?_)|(refine fY ?_;first|refine cG ?_|refine cA ?_|refine gm ?_)|(refine cj ?_;first|refine cr ?_|refine bj ?_|refine bc ?_|refine bk ?_|refine aX ?_|refine bu ?_)|(refine gr ?_;first|refine cB ?_|refine fS ?_|refine bq ?_)|(refine aW ?_;first|refine aC _ ?_|refine bt ?_|refine aG ?_|refine aE ?_|refine aJ ?_)|(refine gh ?_;first|refine co ?_|refine b7 ?_|refine cy ?_)|(refine gOp ?_;first|refine gx ?_|refine gd ?_|refine bh ?_|refine fX ?_|refine fW ?_|refine cJ ?_|refine aZ ?_|refine cg ?_|refine gw ?_|refine b8 ?_|refine cL ?_|refine bg ?_|refine sFz 45 ?_|refine sFz 46 ?_|refine sFz 52 ?_|refine sFz 60 ?_|refine sFz 63 ?_|refine aH ?_|refine cD ?_|refine sNo ?_)|refine gC ?_|refine fa ?_|refine gG ?_|refine bA ?_|refine cM ?_|refine bP ?_|refine gL ?_|refine gF ?_|refine gA ?_|refine fm ?_|refine cQ ?_|refine bD ?_|refine aB ?_|refine bB ?_|refine cO ?_|refine bN ?_|refine aBlkX ?_|refine cP ?_|refine sFz 45 ?_|refine sFz 46 ?_|refine sFz 52 ?_|refine sFz 60 ?_|refine sFz 63 ?_)
 exact ax
theorem fE (sig:List Ctl) (b:Big) (hl:b.inner.length≤1048576):FnD Tryz.prog 123 [.l 3 (sig.map Ctl.D),b.D] (.d (.b (ay sig b))):=⟨bX Tryz.func123,fun F w vs hv hF=>by
 obtain ⟨v1,t,rfl,h1,v2,t2,rfl,h2,h3⟩:=hv
 cases (show t2 = [] from h3)
 obtain ⟨cs,rfl,hb⟩:=ne h2
 refine (qu _ _ _ _ _ _ _ _ _ (sp.toV (by decide) h1) hb hl).mono ?_
 rintro e w' ⟨rfl,hX⟩
 exact ⟨_,rfl,hX,rfl⟩⟩
theorem Ba (a c:List ByteArray):FnD Tryz.prog 264 [DS a,DS c] (.d (.b (eqS a c))):=by
 refine ai Tryz.func264 (fun hw W0=>?_)
 have hl:=(wfM hw.1).1
 refine kgo ?_
 refine cIf (fun h=>?_) (fun h=>?_)
 ·have h:¬(a.length:Int)=c.length:=by simpa using h
  refine kgo ?_
  rw [qt h]
  exact ax
 ·have h:(a.length:Int)=c.length:=by simpa using h
  refine kgo ?_
  refine eQ (fun i:Nat=>i≤a.length∧(List.range i).all (kc a c)=true) (fun i=>a.length - i) (fun i=>[(0,.sy (.d (DS a))),(1,.sy (.d (DS c))),(5,.sy (.d (.i i)))]) 0 ⟨Nat.zero_le _,rfl⟩ (fun i hi=>?_)
  refine kgo ?_
  refine cIf (fun h2=>?_) (fun h2=>?_)
  ·have h2:=of_decide_eq_true h2
   have hlt:i<a.length:=by omega
   have hlt2:i<c.length:=by omega
   have hs:=jH a c i hlt hlt2
   refine kgo ?_
   refine cIf (fun h3=>?_) (fun h3=>?_)
   ·refine kgo ?_
    rw [qq (c:=c) i hlt (by rw [hs];simpa using h3)]
    exact ax
   ·refine kgo ?_
    exact ab (i+1) ⟨hlt,by rw [bM,hi.2,hs];simpa using h3⟩ (by omega)
  ·have h2:=of_decide_eq_false h2
   refine kgo ?_
   rw [zy h (by rw [← hi.2,show i=a.length by omega])]
   exact ax
def mU (a b:Big):Bool:=decide ((a.sites.length:Int)=b.roots) && eqS (a.inner.map Wr.name) b.outer
theorem B5 (a b:Big) (hl:a.inner.length≤1000):FnD Tryz.prog 233 [a.D,b.D] (.d (.b (mU a b))):=by
 have f1:=lG a hl
 have f2:=Ba (a.inner.map Wr.name) b.outer
 refine ai Tryz.func233 (fun hw W0=>?_)
 have hs:=(wfM hw.1.2.2.1).1
 cases hc:decide ((a.sites.length:Int)=b.roots)
 ·rw [show mU a b=false from by unfold mU;rw [hc];rfl]
  refine kgo ?_
  rw [hc]
  refine kgo ?_
  exact ax
 ·rw [show mU a b=eqS (a.inner.map Wr.name) b.outer from by unfold mU;rw [hc];rfl]
  refine kgo ?_
  rw [hc]
  refine kgo ?_
  exact ax
end Go.Proofs.YtclpbhoekmecjaaGreatDoor
namespace Go.Proofs.YtclpbhoekmecjaaGreatDoor
open Go.RowKit
set_option linter.unusedVariables false
set_option maxRecDepth 100000
set_option maxHeartbeats 4000000
attribute [local irreducible] az Der At
theorem vT (sig:List Ctl) (b:Big) (hl:b.inner.length≤1048576):FnD Tryz.prog 234 [.l 3 (sig.map Ctl.D),b.D] (.tp [(if ay sig b then b else eE).D,.b (ay sig b)]):=by
 have f1:=fE sig b hl
 refine ai Tryz.func234 (fun hw W0=>?_)
 cases hc:ay sig b
 ·rw [hc] at f1
  refine kgo ?_
  exact iN
 ·rw [hc] at f1
  refine kgo ?_
  exact iN
def zk (a b:Big):List Int:=eP 0 a.edges.toNat++dz a.outer (a.edges+b.edges) a.outer
def sM (a b:Big):Big:=Cl a b a.outer (dz a.outer (a.edges+b.edges) a.outer) (a.inner.map fun x=>atI (zk a b) x.link)
theorem yY {sig:List Ctl} {a b:Big} (hA:ay sig a=true) (hB:ay sig b=true) (hf:(a.sites.length:Int)=b.roots) (hn:a.inner.length=b.outer.length):FnD Tryz.prog 235 [a.D,b.D] (.d (sM a b).D):=by
 have ha:=aU hA
 have hb:=aU hB
 have l1:=eK 0 a.edges.toNat
 have l2:(dz a.outer (a.edges+b.edges) a.outer).length=a.outer.length:=by unfold dz;rw [List.length_map]
 have l3:(zk a b).length=a.edges.toNat+a.outer.length:=by unfold zk;rw [List.length_append,l1,l2]
 have f1:=nY a.outer (a.edges+b.edges) a.outer (by omega) (by omega) (by omega)
 have f2:=gM 0 a.edges (by omega) (by omega)
 have f3:=AV hA hB hf a.outer (dz a.outer (a.edges+b.edges) a.outer) (a.inner.map fun x=>atI (zk a b) x.link) (by omega) l2 (by rw [List.length_map];exact hn)
 have hk:=ws hA (ks:=zk a b) (by omega)
 refine ai Tryz.func235 (fun hw W0=>?_)
 repeat (first|refine cFz 5 ?_|(refine ck ?_;first|refine bd ?_|refine cC ?_|refine bo ?_|refine bl ?_|refine aY ?_|refine br ?_|refine bw ?_|refine aK ?_|refine bp ?_)|(refine gv ?_;first|refine cd ?_|refine gg ?_|refine ct ?_|refine cz ?_)|(refine gj ?_;first|refine eV (fun _=>?_)|refine cu ?_|refine cq ?_|refine bT ?_|refine ci ?_|refine cw ?_)|(refine gu ?_;first|refine cK ?_|refine fy ?_|refine cH ?_|refine bY ?_|refine cF ?_|refine cE ?_)|(refine fV ?_;first|refine gq ?_|refine fQ ?_|refine ch ?_|refine cb ?_|refine fZ ?_|refine bf ?_|refine bm ?_)|(refine cm ?_;first|refine be ?_|refine cI ?_)|(refine fY ?_;first|refine cG ?_|refine cA ?_|refine gm ?_)|(refine cj ?_;first|refine cr ?_|refine bj ?_|refine bc ?_|refine bk ?_|refine aX ?_|refine bu ?_)|(refine gr ?_;first|refine cB ?_|refine fS ?_|refine bq ?_)|(refine aW ?_;first|refine aC _ ?_|refine bt ?_|refine aG ?_|refine aE ?_|refine aJ ?_)|(refine gh ?_;first|refine co ?_|refine b7 ?_|refine cy ?_)|(refine gOp ?_;first|refine gx ?_|refine gd ?_|refine bh ?_|refine fX ?_|refine fW ?_|refine cJ ?_|refine aZ ?_|refine cg ?_|refine gw ?_|refine b8 ?_|refine cL ?_|refine bg ?_|refine aH ?_|refine cD ?_|refine sNo ?_)|refine gC ?_|refine fa ?_|refine gG ?_|refine bA ?_|refine cM ?_|refine bP ?_|refine gL ?_|refine gF ?_|refine gA ?_|refine fm ?_|refine cQ ?_|refine bD ?_|refine aB ?_|refine bB ?_|refine cO ?_|refine bN ?_|refine aBlkX ?_|refine cP ?_)
 refine cFz 6 ?_
 refine eQ (fun i:Nat=>i≤a.inner.length) (fun i=>a.inner.length - i) (fun i=>[(2,.sy (.bx 10002 0)),(10002,.tk (.bx (flat a.D))),(3,.sy (.bx 10003 0)),(10003,.tk (.bx (flat b.D))),(4,.sy (.bx 10004 0)),(10004,.tk (.bx (flat (.t [.i 0,.n 3,.n 1,.i 0,.n 1,.n 2])))),(5,.sy (.d (DI (dz a.outer (a.edges+b.edges) a.outer)))),(6,.sy (.d (DI (zk a b)))),(7,.sy (.k 10024)),(10024,.tk (.row 1 3 (((a.inner.take i).map fun x=>atI (zk a b) x.link).map .i))),(8,.sy (.d (.i i)))]) 0 (Nat.zero_le _) (fun i hi=>?_)
 refine kgo ?_
 refine cIf (fun h=>?_) (fun h=>?_)
 ·have h:=of_decide_eq_true h
  have hlt:i<a.inner.length:=by omega
  have hk2:=hk _ (List.getElem_mem hlt)
  have hs:((a.inner.take (i+1)).map fun x=>atI (zk a b) x.link).map D.i=((a.inner.take i).map fun x=>atI (zk a b) x.link).map D.i++[.i (atI (zk a b) (a.inner[i]).link)]:=by rw [List.take_succ_eq_append_getElem hlt,List.map_append,List.map_append];rfl
  refine kgo ?_
  exact ab (i+1) hlt (by omega)
 ·have h:=of_decide_eq_false h
  rw [List.take_of_length_le (by omega)]
  repeat (first|(refine ck ?_;first|refine bd ?_|refine cC ?_|refine bo ?_|refine bl ?_|refine aY ?_|refine br ?_|refine bw ?_|refine aK ?_|refine bp ?_)|(refine gv ?_;first|refine cd ?_|refine gg ?_|refine ct ?_|refine cz ?_)|(refine gj ?_;first|refine eV (fun _=>?_)|refine cu ?_|refine cq ?_|refine bT ?_|refine ci ?_|refine cw ?_)|(refine gu ?_;first|refine cK ?_|refine fy ?_|refine cH ?_|refine bY ?_|refine cF ?_|refine cE ?_)|(refine fV ?_;first|refine gq ?_|refine fQ ?_|refine ch ?_|refine cb ?_|refine fZ ?_|refine bf ?_|refine bm ?_)|(refine cm ?_;first|refine be ?_|refine cI ?_)|(refine fY ?_;first|refine cG ?_|refine cA ?_|refine gm ?_)|(refine cj ?_;first|refine cr ?_|refine bj ?_|refine bc ?_|refine bk ?_|refine aX ?_|refine bu ?_)|(refine gr ?_;first|refine cB ?_|refine fS ?_|refine bq ?_)|(refine aW ?_;first|refine aC _ ?_|refine bt ?_|refine aG ?_|refine aE ?_|refine aJ ?_)|(refine gh ?_;first|refine co ?_|refine b7 ?_|refine cy ?_)|(refine gOp ?_;first|refine gx ?_|refine gd ?_|refine bh ?_|refine fX ?_|refine fW ?_|refine cJ ?_|refine aZ ?_|refine cg ?_|refine gw ?_|refine b8 ?_|refine cL ?_|refine bg ?_|refine sFz 49 ?_|refine aH ?_|refine cD ?_|refine sNo ?_)|refine gC ?_|refine fa ?_|refine gG ?_|refine bA ?_|refine cM ?_|refine bP ?_|refine gL ?_|refine gF ?_|refine gA ?_|refine fm ?_|refine cQ ?_|refine bD ?_|refine aB ?_|refine bB ?_|refine cO ?_|refine bN ?_|refine aBlkX ?_|refine cP ?_|refine sFz 49 ?_)
  exact ax
theorem tf (names:List ByteArray) (hl:names.length≤1000):FnD Tryz.prog 232 [.i 0,DS names] (.d (idB names).D):=by
 refine ai Tryz.func232 (fun hw W0=>?_)
 repeat (first|(refine ck ?_;first|refine bd ?_|refine cC ?_|refine bo ?_|refine bl ?_|refine aY ?_|refine br ?_|refine bw ?_|refine aK ?_|refine bp ?_)|(refine gv ?_;first|refine cd ?_|refine gg ?_|refine ct ?_|refine cz ?_)|(refine gj ?_;first|refine eV (fun _=>?_)|refine cu ?_|refine cq ?_|refine bT ?_|refine ci ?_|refine cw ?_)|(refine gu ?_;first|refine cK ?_|refine fy ?_|refine cH ?_|refine bY ?_|refine cF ?_|refine cE ?_)|(refine fV ?_;first|refine gq ?_|refine fQ ?_|refine ch ?_|refine cb ?_|refine fZ ?_|refine bf ?_|refine bm ?_)|(refine cm ?_;first|refine be ?_|refine cI ?_)|(refine fY ?_;first|refine cG ?_|refine cA ?_|refine gm ?_)|(refine cj ?_;first|refine cr ?_|refine bj ?_|refine bc ?_|refine bk ?_|refine aX ?_|refine bu ?_)|(refine gr ?_;first|refine cB ?_|refine fS ?_|refine bq ?_)|(refine aW ?_;first|refine aC _ ?_|refine bt ?_|refine aG ?_|refine aE ?_|refine aJ ?_)|(refine gh ?_;first|refine co ?_|refine b7 ?_|refine cy ?_)|(refine gOp ?_;first|refine gx ?_|refine gd ?_|refine bh ?_|refine fX ?_|refine fW ?_|refine cJ ?_|refine aZ ?_|refine cg ?_|refine gw ?_|refine b8 ?_|refine cL ?_|refine bg ?_|refine sFz 11 ?_|refine aH ?_|refine cD ?_|refine sNo ?_)|refine gC ?_|refine fa ?_|refine gG ?_|refine bA ?_|refine cM ?_|refine bP ?_|refine gL ?_|refine gF ?_|refine gA ?_|refine fm ?_|refine cQ ?_|refine bD ?_|refine aB ?_|refine bB ?_|refine cO ?_|refine bN ?_|refine aBlkX ?_|refine cP ?_|refine sFz 11 ?_)
 refine eQ (fun _:Unit=>True) (fun _=>0) (fun _=>[(0,.sy (.d (.i 0))),(1,.sy (.d (DS names))),(4,.sy (.bx 10004 0)),(10004,.tk (.bx (flat (.t [.i 0,.n 3,.n 1,.i 0,.n 1,.n 2])))),(5,.sy (.bx 10005 0)),(10005,.tk (.bx [.d (.i 0),.d (.n 3),.d (.n 1),.d (.i 0),.d (DS names),.d (.n 2)])),(6,.sy (.d (.i 0)))]) () trivial (fun _ _=>?_)
 refine kgo ?_
 refine nx 10005 5 20001 133 ?_
 refine eQ (fun i:Nat=>i≤names.length) (fun i=>names.length - i) (fun i=>[(1,.sy (.d (DS names))),(4,.sy (.bx 10004 0)),(10004,.tk (.bx (flat (.t [.i 0,.n 3,.n 1,.i 0,.n 1,.n 2])))),(5,.sy (.bx 10005 0)),(10005,.tk (.bx [.d (.i 0),.d (.n 3),.d (.n 1),.d (.i 0),.d (DS names),.k 20001])),(20001,.tk (.row 2 133 (((names.mapIdx fun i s=>(⟨s,i⟩:Wr)).take i).map Wr.D))),(7,.sy (.d (.i i)))]) 0 (Nat.zero_le _) (fun i hi=>?_)
 refine kgo ?_
 refine cIf (fun h=>?_) (fun h=>?_)
 ·have h:=of_decide_eq_true h
  have hlt:i<names.length:=by omega
  have hq:((names.mapIdx fun i s=>(⟨s,i⟩:Wr)).take i).length≤1000:=by rw [List.length_take,List.length_mapIdx];omega
  have hs:((names.mapIdx fun i s=>(⟨s,i⟩:Wr)).take (i+1)).map Wr.D=((names.mapIdx fun i s=>(⟨s,i⟩:Wr)).take i).map Wr.D++[Wr.D ⟨names[i],i⟩]:=by rw [List.take_succ_eq_append_getElem (by rw [List.length_mapIdx];exact hlt),List.map_append,List.getElem_mapIdx];rfl
  refine kgo ?_
  exact ab (i+1) hlt (by omega)
 ·have h:=of_decide_eq_false h
  rw [List.take_of_length_le (by rw [List.length_mapIdx];omega)]
  refine bP (aB (aB (bN (bD ?_))))
  refine nK 10005 5 ?_
  refine kgo ?_
  exact ax
theorem qZ {a b:Big}:(sM a b).inner.length=b.inner.length:=by unfold sM Cl dA;simp
def eS (sig:List Ctl) (a b:Big):Big × Bool:=if ay sig a && (ay sig b && (mU a b && ay sig (sM a b))) then (sM a b,true) else (eE,false)
theorem oF (sig:List Ctl) (a b:Big) (hla:a.inner.length≤1000) (hlb:b.inner.length≤1000):FnD Tryz.prog 206 [.l 3 (sig.map Ctl.D),a.D,b.D] (.tp [(eS sig a b).1.D,.b (eS sig a b).2]):=by
 have f1:=fE sig a (by omega)
 have f2:=fE sig b (by omega)
 have f3:=B5 a b hla
 have f4:=vT sig (sM a b) (by rw [qZ];omega)
 refine ai Tryz.func206 (fun hw W0=>?_)
 cases h1:ay sig a
 ·rw [show eS sig a b=(eE,false) from by unfold eS;rw [h1];rfl]
  rw [h1] at f1
  refine kgo ?_
  exact iN
 cases h2:ay sig b
 ·rw [show eS sig a b=(eE,false) from by unfold eS;rw [h1,h2];rfl]
  rw [h1] at f1
  rw [h2] at f2
  refine kgo ?_
  exact iN
 cases h3:mU a b
 ·rw [show eS sig a b=(eE,false) from by unfold eS;rw [h1,h2,h3];rfl]
  rw [h1] at f1
  rw [h2] at f2
  rw [h3] at f3
  refine kgo ?_
  exact iN
 have h4:(a.sites.length:Int)=b.roots∧a.inner.length=b.outer.length:=by
  unfold mU at h3
  rw [Bool.and_eq_true,decide_eq_true_eq] at h3
  refine ⟨h3.1,?_⟩
  have:=h3.2
  by_cases hh:((a.inner.map Wr.name).length:Int)=b.outer.length
  ·rw [List.length_map] at hh;omega
  ·rw [qt hh] at this;cases this
 have f5:=yY h1 h2 h4.1 h4.2
 rw [show eS sig a b=(if ay sig (sM a b) then sM a b else eE,ay sig (sM a b)) from by unfold eS;rw [h1,h2,h3];cases ay sig (sM a b) <;> rfl]
 rw [h1] at f1
 rw [h2] at f2
 rw [h3] at f3
 refine kgo ?_
 exact iN
end Go.Proofs.YtclpbhoekmecjaaGreatDoor
namespace Go.Proofs.YtclpbhoekmecjaaGreatDoor
open Go.RowKit
set_option linter.unusedVariables false
set_option maxRecDepth 100000
set_option maxHeartbeats 4000000
attribute [local irreducible] az Der At
theorem kh (a:List Wr):∀b:List Wr,(bK a b).length=a.length+b.length:=by
 unfold bK
 intro b
 induction b generalizing a with
 | nil=>rfl
 | cons x b ih=>rw [List.foldl_cons,ih,pc,List.length_cons];omega
theorem vI (a b:List Wr) (i:Nat) (h:i<b.length):bK a (b.take (i+1))=fN wLt (bK a (b.take i)) b[i]:=by
 unfold bK;rw [List.take_succ_eq_append_getElem h,List.foldl_append];rfl
theorem th (a b:List Wr) (hla:a.length≤1000) (hlb:b.length≤1000):FnD Tryz.prog 203 [.l 2 (a.map Wr.D),.l 2 (b.map Wr.D)] (.d (.l 2 ((bK a b).map Wr.D))):=by
 refine ai Tryz.func203 (fun hw W0=>?_)
 repeat (first|(refine ck ?_;first|refine bd ?_|refine cC ?_|refine bo ?_|refine bl ?_|refine aY ?_|refine br ?_|refine bw ?_|refine aK ?_|refine bp ?_)|(refine gv ?_;first|refine cd ?_|refine gg ?_|refine ct ?_|refine cz ?_)|(refine gj ?_;first|refine eV (fun _=>?_)|refine cu ?_|refine cq ?_|refine bT ?_|refine ci ?_|refine cw ?_)|(refine gu ?_;first|refine cK ?_|refine fy ?_|refine cH ?_|refine bY ?_|refine cF ?_|refine cE ?_)|(refine fV ?_;first|refine gq ?_|refine fQ ?_|refine ch ?_|refine cb ?_|refine fZ ?_|refine bf ?_|refine bm ?_)|(refine cm ?_;first|refine be ?_|refine cI ?_)|(refine fY ?_;first|refine iY (d:=5) ?_|refine cG ?_|refine cA ?_|refine gm ?_)|(refine cj ?_;first|refine cr ?_|refine bj ?_|refine bc ?_|refine bk ?_|refine aX ?_|refine bu ?_)|(refine gr ?_;first|refine cB ?_|refine fS ?_|refine bq ?_)|(refine aW ?_;first|refine aC _ ?_|refine bt ?_|refine aG ?_|refine aE ?_|refine aJ ?_)|(refine gh ?_;first|refine co ?_|refine b7 ?_|refine cy ?_)|(refine gOp ?_;first|refine gx ?_|refine gd ?_|refine bh ?_|refine fX ?_|refine fW ?_|refine cJ ?_|refine aZ ?_|refine cg ?_|refine gw ?_|refine b8 ?_|refine cL ?_|refine bg ?_|refine aH ?_|refine cD ?_|refine sNo ?_)|refine gC ?_|refine fa ?_|refine gG ?_|refine bA ?_|refine cM ?_|refine bP ?_|refine gL ?_|refine gF ?_|refine gA ?_|refine fm ?_|refine cQ ?_|refine bD ?_|refine aB ?_|refine bB ?_|refine cO ?_|refine bN ?_|refine aBlkX ?_|refine cP ?_)
 refine eQ (fun i:Nat=>i≤b.length) (fun i=>b.length - i) (fun i=>[(1,.sy (.d (.l 2 (b.map Wr.D)))),(5,.sy (.d (.l 2 ((bK a (b.take i)).map Wr.D)))),(6,.sy (.d (.i i)))]) 0 (Nat.zero_le _) (fun i hi=>?_)
 refine kgo ?_
 refine cIf (fun h=>?_) (fun h=>?_)
 ·have h:=of_decide_eq_true h
  have hlt:i<b.length:=by omega
  have hml:=kh a (b.take i)
  rw [List.length_take] at hml
  refine kgo ?_
  refine eQ (fun k:Nat=>k≤(bK a (b.take i)).length∧∀j (h:j<(bK a (b.take i)).length),j<k→wLt (bK a (b.take i))[j] b[i]=true) (fun k=>(bK a (b.take i)).length - k) (fun k=>[(1,.sy (.d (.l 2 (b.map Wr.D)))),(5,.sy (.d (.l 2 ((bK a (b.take i)).map Wr.D)))),(6,.sy (.d (.i i))),(7,.sy (.d (.i k)))]) 0 ⟨Nat.zero_le _,fun j _ h=>absurd h (Nat.not_lt_zero _)⟩ (fun k hk=>?_)
  obtain ⟨hk1,hk2⟩:=hk
  have out (hno:∀h:k<(bK a (b.take i)).length,wLt (bK a (b.take i))[k] b[i]=false):bK a (b.take (i+1))=(bK a (b.take i)).take k++b[i] :: (bK a (b.take i)).drop k:=by
   rw [vI a b i hlt,wN wLt b[i] _ k hk1 hk2 hno]
  cases hc:decide ((k:Int)<((bK a (b.take i)).length:Int))
  ·have hc':=of_decide_eq_false hc
   refine kgo ?_
   rw [hc]
   have e:=out (fun h=>absurd h (by omega))
   clear out
   have hs:D.l 2 ((bK a (b.take (i+1))).map Wr.D)=D.l (1+1) ([]++((bK a (b.take i)).take k).map Wr.D++[Bv (Wr.D b[i])]++((bK a (b.take i)).drop k).map Wr.D):=by rw [e,show Bv (Wr.D b[i])=Wr.D b[i] from rfl];simp
   repeat (first|(refine ck ?_;first|refine bd ?_|refine cC ?_|refine bo ?_|refine bl ?_|refine aY ?_|refine br ?_|refine bw ?_|refine aK ?_|refine bp ?_)|(refine gv ?_;first|refine cd ?_|refine gg ?_|refine ct ?_|refine cz ?_)|(refine gj ?_;first|refine eV (fun _=>?_)|refine cu ?_|refine cq ?_|refine bT ?_|refine ci ?_|refine cw ?_)|(refine gu ?_;first|refine cK ?_|refine fy ?_|refine cH ?_|refine bY ?_|refine cF ?_|refine cE ?_)|(refine fV ?_;first|refine gq ?_|refine fQ ?_|refine ch ?_|refine cb ?_|refine fZ ?_|refine bf ?_|refine bm ?_)|(refine cm ?_;first|refine be ?_|refine cI ?_)|(refine fY ?_;first|refine iY (d:=5) ?_|refine cG ?_|refine cA ?_|refine gm ?_)|(refine cj ?_;first|refine cr ?_|refine bj ?_|refine bc ?_|refine bk ?_|refine aX ?_|refine bu ?_)|(refine gr ?_;first|refine cB ?_|refine fS ?_|refine bq ?_)|(refine aW ?_;first|refine aC _ ?_|refine bt ?_|refine aG ?_|refine aE ?_|refine aJ ?_)|(refine gh ?_;first|refine co ?_|refine b7 ?_|refine cy ?_)|(refine gOp ?_;first|refine gx ?_|refine gd ?_|refine bh ?_|refine fX ?_|refine fW ?_|refine cJ ?_|refine aZ ?_|refine cg ?_|refine gw ?_|refine b8 ?_|refine cL ?_|refine bg ?_|refine aH ?_|refine cD ?_|refine sNo ?_)|refine gC ?_|refine fa ?_|refine gG ?_|refine bA ?_|refine cM ?_|refine bP ?_|refine gL ?_|refine gF ?_|refine gA ?_|refine fm ?_|refine cQ ?_|refine bD ?_|refine aB ?_|refine bB ?_|refine cO ?_|refine bN ?_|refine aBlkX ?_|refine cP ?_)
   exact ab (i+1) hlt (by omega)
  ·have hc':=of_decide_eq_true hc
   have hkl:k<(bK a (b.take i)).length:=by omega
   refine kgo ?_
   rw [hc]
   refine kgo ?_
   refine cIf (fun h2=>?_) (fun h2=>?_)
   ·refine kgo ?_
    exact ab (k+1) ⟨hkl,fun j h1 h3=>by
     rcases Nat.lt_or_ge j k with h4|h4
     ·exact hk2 j h1 h4
     ·rw [show (bK a (b.take i))[j]=(bK a (b.take i))[k] from by congr 1;omega];exact h2⟩ (by omega)
   ·have e:=out (fun h=>h2)
    clear out
    have hs:D.l 2 ((bK a (b.take (i+1))).map Wr.D)=D.l (1+1) ([]++((bK a (b.take i)).take k).map Wr.D++[Bv (Wr.D b[i])]++((bK a (b.take i)).drop k).map Wr.D):=by rw [e,show Bv (Wr.D b[i])=Wr.D b[i] from rfl];simp
    repeat (first|(refine ck ?_;first|refine bd ?_|refine cC ?_|refine bo ?_|refine bl ?_|refine aY ?_|refine br ?_|refine bw ?_|refine aK ?_|refine bp ?_)|(refine gv ?_;first|refine cd ?_|refine gg ?_|refine ct ?_|refine cz ?_)|(refine gj ?_;first|refine eV (fun _=>?_)|refine cu ?_|refine cq ?_|refine bT ?_|refine ci ?_|refine cw ?_)|(refine gu ?_;first|refine cK ?_|refine fy ?_|refine cH ?_|refine bY ?_|refine cF ?_|refine cE ?_)|(refine fV ?_;first|refine gq ?_|refine fQ ?_|refine ch ?_|refine cb ?_|refine fZ ?_|refine bf ?_|refine bm ?_)|(refine cm ?_;first|refine be ?_|refine cI ?_)|(refine fY ?_;first|refine iY (d:=5) ?_|refine cG ?_|refine cA ?_|refine gm ?_)|(refine cj ?_;first|refine cr ?_|refine bj ?_|refine bc ?_|refine bk ?_|refine aX ?_|refine bu ?_)|(refine gr ?_;first|refine cB ?_|refine fS ?_|refine bq ?_)|(refine aW ?_;first|refine aC _ ?_|refine bt ?_|refine aG ?_|refine aE ?_|refine aJ ?_)|(refine gh ?_;first|refine co ?_|refine b7 ?_|refine cy ?_)|(refine gOp ?_;first|refine gx ?_|refine gd ?_|refine bh ?_|refine fX ?_|refine fW ?_|refine cJ ?_|refine aZ ?_|refine cg ?_|refine gw ?_|refine b8 ?_|refine cL ?_|refine bg ?_|refine aH ?_|refine cD ?_|refine sNo ?_)|refine gC ?_|refine fa ?_|refine gG ?_|refine bA ?_|refine cM ?_|refine bP ?_|refine gL ?_|refine gF ?_|refine gA ?_|refine fm ?_|refine cQ ?_|refine bD ?_|refine aB ?_|refine bB ?_|refine cO ?_|refine bN ?_|refine aBlkX ?_|refine cP ?_)
    exact ab (i+1) hlt (by omega)
 ·have h:=of_decide_eq_false h
  refine kgo ?_
  rw [List.take_of_length_le (by omega)]
  exact ax
theorem z8 {l:List ByteArray} {n:ByteArray} {k:Nat} (hs:l.Pairwise NLt) (hk1:k≤l.length) (hk2:∀j (h:j<l.length),j<k→dh l[j] n=true) (hno:∀h:k<l.length,dh l[k] n=false) (hne:∀h:k<l.length,(l[k].toList == n.toList)=false):rL l n=l.take k++n :: l.drop k:=by
 unfold rL
 rw [if_neg,wN dh n l k hk1 hk2 hno]
 intro hh
 obtain ⟨x,hx,e⟩:=List.any_eq_true.1 hh
 rw [beq_iff_eq] at e
 have e:=ft e
 subst e
 obtain ⟨j,hj,e⟩:=List.getElem_of_mem hx
 rcases Nat.lt_trichotomy j k with h|h|h
 ·have:=hk2 j hj h
  rw [e] at this
  exact NLt.irr _ this
 ·subst h
  have:=hne hj
  rw [e] at this
  simp at this
 ·have h1:dh _ _=true:=List.pairwise_iff_getElem.1 hs k j (by omega) hj h
  rw [e,hno (by omega)] at h1
  cases h1
theorem D0 {l:List ByteArray} {n:ByteArray} {k:Nat} (h:k<l.length) (he:(l[k].toList == n.toList)=true):rL l n=l:=by
 unfold rL
 rw [if_pos (List.any_eq_true.2 ⟨l[k],List.getElem_mem h,he⟩)]
theorem xP (l:List ByteArray) (i:Nat) (h:i<l.length):ca (l.take (i+1))=rL (ca (l.take i)) l[i]:=by
 unfold ca;rw [List.take_succ_eq_append_getElem h,List.foldl_append];rfl
theorem C3 (l:List ByteArray) (s:ByteArray):(rL l s).length≤l.length+1:=by
 unfold rL;split
 ·omega
 ·rw [pc];exact Nat.le_refl _
theorem jU:∀(l a:List ByteArray),(l.foldl rL a).length≤a.length+l.length
 | [],a=>by simp
 | s :: l,a=>by
  have:=jU l (rL a s)
  have:=C3 a s
  rw [List.foldl_cons,List.length_cons];omega
theorem xy (l:List ByteArray) (hl:l.length≤100000):FnD Tryz.prog 299 [DS l] (.d (DS (ca l))):=by
 refine ai Tryz.func299 (fun hw W0=>?_)
 repeat (first|(refine ck ?_;first|refine bd ?_|refine cC ?_|refine bo ?_|refine bl ?_|refine aY ?_|refine br ?_|refine bw ?_|refine aK ?_|refine bp ?_)|(refine gv ?_;first|refine cd ?_|refine gg ?_|refine ct ?_|refine cz ?_)|(refine gj ?_;first|refine eV (fun _=>?_)|refine cu ?_|refine cq ?_|refine bT ?_|refine ci ?_|refine cw ?_)|(refine gu ?_;first|refine cK ?_|refine fy ?_|refine cH ?_|refine bY ?_|refine cF ?_|refine cE ?_)|(refine fV ?_;first|refine gq ?_|refine fQ ?_|refine ch ?_|refine cb ?_|refine fZ ?_|refine bf ?_|refine bm ?_)|(refine cm ?_;first|refine be ?_|refine cI ?_)|(refine fY ?_;first|refine iY (d:=3) ?_|refine cG ?_|refine cA ?_|refine gm ?_)|(refine cj ?_;first|refine cr ?_|refine bj ?_|refine bc ?_|refine bk ?_|refine aX ?_|refine bu ?_)|(refine gr ?_;first|refine cB ?_|refine fS ?_|refine bq ?_)|(refine aW ?_;first|refine aC _ ?_|refine bt ?_|refine aG ?_|refine aE ?_|refine aJ ?_)|(refine gh ?_;first|refine co ?_|refine b7 ?_|refine cy ?_)|(refine gOp ?_;first|refine gx ?_|refine gd ?_|refine bh ?_|refine fX ?_|refine fW ?_|refine cJ ?_|refine aZ ?_|refine cg ?_|refine gw ?_|refine b8 ?_|refine cL ?_|refine bg ?_|refine aH ?_|refine cD ?_|refine sNo ?_)|refine gC ?_|refine fa ?_|refine gG ?_|refine bA ?_|refine cM ?_|refine bP ?_|refine gL ?_|refine gF ?_|refine gA ?_|refine fm ?_|refine cQ ?_|refine bD ?_|refine aB ?_|refine bB ?_|refine cO ?_|refine bN ?_|refine aBlkX ?_|refine cP ?_)
 refine eQ (fun i:Nat=>i≤l.length) (fun i=>l.length - i) (fun i=>[(0,.sy (.d (DS l))),(3,.sy (.d (DS (ca (l.take i))))),(4,.sy (.d (.i i)))]) 0 (Nat.zero_le _) (fun i hi=>?_)
 have hsn:=tE (l.take i)
 have hml:=jU (l.take i) []
 rw [show (l.take i).foldl rL []=ca (l.take i) from rfl,List.length_take,List.length_nil] at hml
 refine kgo ?_
 refine cIf (fun h=>?_) (fun h=>?_)
 ·have h:=of_decide_eq_true h
  have hlt:i<l.length:=by omega
  have hsu:=xP l i hlt
  revert hsn hml hsu
  generalize ca (l.take i)=m
  intro hsn hml hsu
  refine kgo ?_
  refine eQ (fun k:Nat=>k≤m.length∧∀j (h:j<m.length),j<k→dh m[j] l[i]=true) (fun k=>m.length - k) (fun k=>[(0,.sy (.d (DS l))),(3,.sy (.d (DS m))),(4,.sy (.d (.i i))),(5,.sy (.d (.i k)))]) 0 ⟨Nat.zero_le _,fun j _ h=>absurd h (Nat.not_lt_zero _)⟩ (fun k hk=>?_)
  obtain ⟨hk1,hk2⟩:=hk
  have hs0 (e:rL m l[i]=m.take k++l[i] :: m.drop k):DS (ca (l.take (i+1)))=D.l (0+1) ([]++(m.take k).map D.s++[Bv (D.s l[i])]++(m.drop k).map D.s):=by rw [hsu,e,show Bv (D.s l[i])=D.s l[i] from rfl];simp [DS]
  cases hc:decide ((k:Int)<(m.length:Int))
  ·have hc':=of_decide_eq_false hc
   have hc2:decide ((k:Int)=(m.length:Int))=true:=decide_eq_true (by omega)
   have hs:=hs0 (z8 hsn hk1 hk2 (fun h=>absurd h (by omega)) (fun h=>absurd h (by omega)))
   clear hs0
   refine kgo ?_
   rw [hc]
   refine kgo ?_
   rw [hc2]
   repeat (first|(refine ck ?_;first|refine bd ?_|refine cC ?_|refine bo ?_|refine bl ?_|refine aY ?_|refine br ?_|refine bw ?_|refine aK ?_|refine bp ?_)|(refine gv ?_;first|refine cd ?_|refine gg ?_|refine ct ?_|refine cz ?_)|(refine gj ?_;first|refine eV (fun _=>?_)|refine cu ?_|refine cq ?_|refine bT ?_|refine ci ?_|refine cw ?_)|(refine gu ?_;first|refine cK ?_|refine fy ?_|refine cH ?_|refine bY ?_|refine cF ?_|refine cE ?_)|(refine fV ?_;first|refine gq ?_|refine fQ ?_|refine ch ?_|refine cb ?_|refine fZ ?_|refine bf ?_|refine bm ?_)|(refine cm ?_;first|refine be ?_|refine cI ?_)|(refine fY ?_;first|refine iY (d:=3) ?_|refine cG ?_|refine cA ?_|refine gm ?_)|(refine cj ?_;first|refine cr ?_|refine bj ?_|refine bc ?_|refine bk ?_|refine aX ?_|refine bu ?_)|(refine gr ?_;first|refine cB ?_|refine fS ?_|refine bq ?_)|(refine aW ?_;first|refine aC _ ?_|refine bt ?_|refine aG ?_|refine aE ?_|refine aJ ?_)|(refine gh ?_;first|refine co ?_|refine b7 ?_|refine cy ?_)|(refine gOp ?_;first|refine gx ?_|refine gd ?_|refine bh ?_|refine fX ?_|refine fW ?_|refine cJ ?_|refine aZ ?_|refine cg ?_|refine gw ?_|refine b8 ?_|refine cL ?_|refine bg ?_|refine aH ?_|refine cD ?_|refine sNo ?_)|refine gC ?_|refine fa ?_|refine gG ?_|refine bA ?_|refine cM ?_|refine bP ?_|refine gL ?_|refine gF ?_|refine gA ?_|refine fm ?_|refine cQ ?_|refine bD ?_|refine aB ?_|refine bB ?_|refine cO ?_|refine bN ?_|refine aBlkX ?_|refine cP ?_)
   exact ab (i+1) hlt (by omega)
  ·have hc':=of_decide_eq_true hc
   have hkl:k<m.length:=by omega
   have hc2:decide ((k:Int)=(m.length:Int))=false:=decide_eq_false (by omega)
   refine kgo ?_
   rw [hc]
   refine kgo ?_
   refine cIf (fun h2=>?_) (fun h2=>?_)
   ·refine kgo ?_
    exact ab (k+1) ⟨hkl,fun j h1 h3=>by
     rcases Nat.lt_or_ge j k with h4|h4
     ·exact hk2 j h1 h4
     ·rw [show m[j]=m[k] from by congr 1;omega];exact h2⟩ (by omega)
   ·refine kgo ?_
    rw [hc2]
    refine kgo ?_
    refine cIf (fun h3=>?_) (fun h3=>?_)
    ·rw [Bool.not_eq_true'] at h3
     have hs:=hs0 (z8 hsn hk1 hk2 (fun h=>h2) (fun h=>h3))
     clear hs0
     repeat (first|(refine ck ?_;first|refine bd ?_|refine cC ?_|refine bo ?_|refine bl ?_|refine aY ?_|refine br ?_|refine bw ?_|refine aK ?_|refine bp ?_)|(refine gv ?_;first|refine cd ?_|refine gg ?_|refine ct ?_|refine cz ?_)|(refine gj ?_;first|refine eV (fun _=>?_)|refine cu ?_|refine cq ?_|refine bT ?_|refine ci ?_|refine cw ?_)|(refine gu ?_;first|refine cK ?_|refine fy ?_|refine cH ?_|refine bY ?_|refine cF ?_|refine cE ?_)|(refine fV ?_;first|refine gq ?_|refine fQ ?_|refine ch ?_|refine cb ?_|refine fZ ?_|refine bf ?_|refine bm ?_)|(refine cm ?_;first|refine be ?_|refine cI ?_)|(refine fY ?_;first|refine iY (d:=3) ?_|refine cG ?_|refine cA ?_|refine gm ?_)|(refine cj ?_;first|refine cr ?_|refine bj ?_|refine bc ?_|refine bk ?_|refine aX ?_|refine bu ?_)|(refine gr ?_;first|refine cB ?_|refine fS ?_|refine bq ?_)|(refine aW ?_;first|refine aC _ ?_|refine bt ?_|refine aG ?_|refine aE ?_|refine aJ ?_)|(refine gh ?_;first|refine co ?_|refine b7 ?_|refine cy ?_)|(refine gOp ?_;first|refine gx ?_|refine gd ?_|refine bh ?_|refine fX ?_|refine fW ?_|refine cJ ?_|refine aZ ?_|refine cg ?_|refine gw ?_|refine b8 ?_|refine cL ?_|refine bg ?_|refine aH ?_|refine cD ?_|refine sNo ?_)|refine gC ?_|refine fa ?_|refine gG ?_|refine bA ?_|refine cM ?_|refine bP ?_|refine gL ?_|refine gF ?_|refine gA ?_|refine fm ?_|refine cQ ?_|refine bD ?_|refine aB ?_|refine bB ?_|refine cO ?_|refine bN ?_|refine aBlkX ?_|refine cP ?_)
     exact ab (i+1) hlt (by omega)
    ·rw [Bool.not_eq_false'] at h3
     have hs:DS (ca (l.take (i+1)))=DS m:=by rw [hsu,D0 hkl h3]
     clear hs0
     refine kgo ?_
     exact ab (i+1) hlt (by omega)
 ·have h:=of_decide_eq_false h
  refine kgo ?_
  rw [List.take_of_length_le (by omega)]
  exact ax
def jB (a b:Big):List ByteArray:=ca (a.outer++b.outer)
def gW (a b c:Big) (n:Int):List Int:=eP n c.edges.toNat++dz c.outer (a.edges+b.edges) (jB a b)
def g8 (a b:Big):Big:=
 ⟨a.roots+b.roots,dc 0 (dg 0 a.roots.toNat) (gW a b a 0) a.nodes++dc a.nodes.length (dg a.roots b.roots.toNat) (gW a b b a.edges) b.nodes,dx 0 (dg 0 a.roots.toNat) a.sites++dx a.nodes.length (dg a.roots b.roots.toNat) b.sites,a.edges+b.edges,jB a b,bK (dA (gW a b a 0) a.inner) (dA (gW a b b a.edges) b.inner)⟩
theorem C0 {sig:List Ctl} {a b:Big} (hA:ay sig a=true) (hB:ay sig b=true) (hia:a.inner.length≤1000) (hib:b.inner.length≤1000) :
 FnD Tryz.prog 263 [a.D,b.D] (.d (g8 a b).D):=by
 have ha:=aU hA
 have hb:=aU hB
 have l0:=jU (a.outer++b.outer) []
 rw [show (a.outer++b.outer).foldl rL []=jB a b from rfl,List.length_append,List.length_nil] at l0
 have l1:=eK 0 a.edges.toNat
 have l2:=eK a.edges b.edges.toNat
 have l3:=lv 0 a.roots.toNat
 have l4:=lv a.roots b.roots.toNat
 have l5:(dz a.outer (a.edges+b.edges) (jB a b)).length=a.outer.length:=by unfold dz;rw [List.length_map]
 have l6:(dz b.outer (a.edges+b.edges) (jB a b)).length=b.outer.length:=by unfold dz;rw [List.length_map]
 have l7:(gW a b a 0).length=a.edges.toNat+a.outer.length:=by unfold gW;rw [List.length_append,l1,l5]
 have l8:(gW a b b a.edges).length=b.edges.toNat+b.outer.length:=by unfold gW;rw [List.length_append,l2,l6]
 have f1:=xy (a.outer++b.outer) (by rw [List.length_append];omega)
 rw [show ca (a.outer++b.outer)=jB a b from rfl] at f1
 have f2:=gM 0 a.edges (by omega) (by omega)
 have f3:=gM a.edges b.edges (by omega) (by omega)
 have f4:=nY a.outer (a.edges+b.edges) (jB a b) (by omega) (by omega) (by omega)
 have f5:=nY b.outer (a.edges+b.edges) (jB a b) (by omega) (by omega) (by omega)
 have f6:=mK 0 a.roots (by omega) (by omega)
 have f7:=mK a.roots b.roots (by omega) (by omega)
 have f8:=lS a 0 (dg 0 a.roots.toNat) (gW a b a 0) (by omega) (by omega) (qW hA) (wX hA 0 (by omega)) (wY hA (by omega))
 have f9:=lS b a.nodes.length (dg a.roots b.roots.toNat) (gW a b b a.edges) (by omega) (by omega) (qW hB) (wX hB _ (by omega)) (wY hB (by omega))
 have g1:=lz a 0 (dg 0 a.roots.toNat) (by omega) (rD hA 0 (by omega)) (by omega)
 have g2:=lz b a.nodes.length (dg a.roots b.roots.toNat) (by omega) (rD hB _ (by omega)) (by omega)
 have g3:=oy a (gW a b a 0) (ws hA (by omega)) (by omega)
 have g4:=oy b (gW a b b a.edges) (ws hB (by omega)) (by omega)
 have g5:=th (dA (gW a b a 0) a.inner) (dA (gW a b b a.edges) b.inner) (by unfold dA;rw [List.length_map];omega) (by unfold dA;rw [List.length_map];omega)
 have q1:(dc 0 (dg 0 a.roots.toNat) (gW a b a 0) a.nodes).length=a.nodes.length:=by unfold dc;rw [List.length_map]
 have q2:(dc a.nodes.length (dg a.roots b.roots.toNat) (gW a b b a.edges) b.nodes).length=b.nodes.length:=by unfold dc;rw [List.length_map]
 have q3:(dx 0 (dg 0 a.roots.toNat) a.sites).length=a.sites.length:=by unfold dx;rw [List.length_map]
 have q4:(dx a.nodes.length (dg a.roots b.roots.toNat) b.sites).length=b.sites.length:=by unfold dx;rw [List.length_map]
 refine ai Tryz.func263 (fun hw W0=>?_)
 repeat (first|refine cFz 7 ?_|refine cFz 8 ?_|refine cFz 9 ?_|refine cFz 10 ?_|(refine ck ?_;first|refine bd ?_|refine cC ?_|refine bo ?_|refine bl ?_|refine aY ?_|refine br ?_|refine bw ?_|refine aK ?_|refine bp ?_)|(refine gv ?_;first|refine cd ?_|refine gg ?_|refine ct ?_|refine cz ?_)|(refine gj ?_;first|refine eV (fun _=>?_)|refine cu ?_|refine cq ?_|refine bT ?_|refine ci ?_|refine cw ?_)|(refine gu ?_;first|refine cK ?_|refine fy ?_|refine cH ?_|refine bY ?_|refine cF ?_|refine cE ?_)|(refine fV ?_;first|refine gq ?_|refine fQ ?_|refine ch ?_|refine cb ?_|refine fZ ?_|refine bf ?_|refine bm ?_)|(refine cm ?_;first|refine be ?_|refine cI ?_)|(refine fY ?_;first|refine cG ?_|refine cA ?_|refine gm ?_)|(refine cj ?_;first|refine cr ?_|refine bj ?_|refine bc ?_|refine bk ?_|refine aX ?_|refine bu ?_)|(refine gr ?_;first|refine cB ?_|refine fS ?_|refine bq ?_)|(refine aW ?_;first|refine aC _ ?_|refine bt ?_|refine aG ?_|refine aE ?_|refine aJ ?_)|(refine gh ?_;first|refine co ?_|refine b7 ?_|refine cy ?_)|(refine gOp ?_;first|refine gx ?_|refine gd ?_|refine bh ?_|refine fX ?_|refine fW ?_|refine cJ ?_|refine aZ ?_|refine cg ?_|refine gw ?_|refine b8 ?_|refine cL ?_|refine bg ?_|refine sFz 17 ?_|refine sFz 31 ?_|refine sFz 42 ?_|refine sFz 67 ?_|refine sFz 68 ?_|refine sFz 77 ?_|refine sFz 78 ?_|refine sFz 83 ?_|refine sFz 86 ?_|refine aH ?_|refine cD ?_|refine sNo ?_)|refine gC ?_|refine fa ?_|refine gG ?_|refine bA ?_|refine cM ?_|refine bP ?_|refine gL ?_|refine gF ?_|refine gA ?_|refine fm ?_|refine cQ ?_|refine bD ?_|refine aB ?_|refine bB ?_|refine cO ?_|refine bN ?_|refine aBlkX ?_|refine cP ?_|refine sFz 17 ?_|refine sFz 31 ?_|refine sFz 42 ?_|refine sFz 67 ?_|refine sFz 68 ?_|refine sFz 77 ?_|refine sFz 78 ?_|refine sFz 83 ?_|refine sFz 86 ?_)
 exact ax
end Go.Proofs.YtclpbhoekmecjaaGreatDoor
namespace Go.Proofs.YtclpbhoekmecjaaGreatDoor
open Go.RowKit
set_option linter.unusedVariables false
set_option maxRecDepth 100000
set_option maxHeartbeats 4000000
attribute [local irreducible] az Der At
theorem ox {a b:Big}:(g8 a b).inner.length=a.inner.length+b.inner.length:=by unfold g8 dA;simp only [kh,List.length_map]
def n9 (sig:List Ctl) (a b:Big):Big × Bool:=if ay sig a && (ay sig b && (iq a.outer b.outer && (iq (a.inner.map Wr.name) (b.inner.map Wr.name) && ay sig (g8 a b)))) then (g8 a b,true) else (eE,false)
theorem xh (sig:List Ctl) (a b:Big) (hla:a.inner.length≤1000) (hlb:b.inner.length≤1000):FnD Tryz.prog 231 [.l 3 (sig.map Ctl.D),a.D,b.D] (.tp [(n9 sig a b).1.D,.b (n9 sig a b).2]):=by
 have f1:=fE sig a (by omega)
 have f2:=fE sig b (by omega)
 have f3:=sG a.outer b.outer
 have f4:=lG a hla
 have f5:=lG b hlb
 have f6:=sG (a.inner.map Wr.name) (b.inner.map Wr.name)
 have f8:=vT sig (g8 a b) (by rw [ox];omega)
 refine ai Tryz.func231 (fun hw W0=>?_)
 unfold n9
 cases h1:ay sig a
 ·rw [h1] at f1
  refine kgo ?_
  exact iN
 cases h2:ay sig b
 ·rw [h1] at f1
  rw [h2] at f2
  refine kgo ?_
  exact iN
 have f7:=C0 h1 h2 hla hlb
 rw [h1] at f1
 rw [h2] at f2
 cases h3:iq a.outer b.outer
 ·rw [h3] at f3
  refine kgo ?_
  exact iN
 rw [h3] at f3
 cases h4:iq (a.inner.map Wr.name) (b.inner.map Wr.name)
 ·rw [h4] at f6
  refine kgo ?_
  exact iN
 rw [h4] at f6
 rw [show (if true && (true && (true && (true && ay sig (g8 a b)))) then (g8 a b,true) else (eE,false))=(if ay sig (g8 a b) then g8 a b else eE,ay sig (g8 a b)) from by cases ay sig (g8 a b) <;> rfl]
 refine kgo ?_
 exact iN
def eO (xs ys:List ByteArray):List ByteArray:=ys.filter fun y=>decide (jC xs y<0)
theorem x9 (xs ys:List ByteArray) (i:Nat) (h:i<ys.length):eO xs (ys.take (i+1))=if decide (jC xs ys[i]<0)=true then eO xs (ys.take i)++[ys[i]] else eO xs (ys.take i):=by
 unfold eO
 rw [List.take_succ_eq_append_getElem h,List.filter_append]
 by_cases hh:decide (jC xs ys[i]<0)=true <;> simp [hh]
theorem xj (sig:List Ctl) (a b:Big) (hla:a.inner.length≤1000) (hlb:b.inner.length≤1000):FnD Tryz.prog 205 [.l 3 (sig.map Ctl.D),a.D,b.D] (.tp [(n9 sig a (idB (eO a.outer (b.inner.map Wr.name)))).1.D,.b (n9 sig a (idB (eO a.outer (b.inner.map Wr.name)))).2]):=by
 have f1:=lG b hlb
 have hll:(b.inner.map Wr.name).length≤1000:=by rw [List.length_map];exact hlb
 refine ai Tryz.func205 (fun hw W0=>?_)
 revert f1 hll
 generalize b.inner.map Wr.name=ys
 intro f1 hll
 have hr:(eO a.outer ys).length≤1000:=Nat.le_trans (List.length_filter_le _ _) hll
 have f3:=tf (eO a.outer ys) hr
 have f4:=xh sig a (idB (eO a.outer ys)) hla (by unfold idB;simpa using hr)
 refine kgo ?_
 refine eQ (fun i:Nat=>i≤ys.length) (fun i=>ys.length - i) (fun i=>[(0,.sy (.d (.l 3 (sig.map Ctl.D)))),(4,.sy (.bx 10004 0)),(10004,.tk (.bx (flat a.D))),(6,.sy (.bx 10006 0)),(10006,.tk (.bx (flat (.t [.i 0,.n 3,.n 1,.i 0,.n 1,.n 2])))),(8,.sy (.k 10011)),(10011,.tk (.row 1 9 ((eO a.outer (ys.take i)).map D.s))),(9,.sy (.d (DS ys))),(10,.sy (.d (.i i)))]) 0 (Nat.zero_le _) (fun i hi=>?_)
 refine kgo ?_
 refine cIf (fun h=>?_) (fun h=>?_)
 ·have h:=of_decide_eq_true h
  have hlt:i<ys.length:=by omega
  have f2:=wC a.outer ys[i]
  have hq:(eO a.outer (ys.take i)).length≤1000:=Nat.le_trans (List.length_filter_le _ _) (by rw [List.length_take];omega)
  have hsu:=x9 a.outer ys i hlt
  refine kgo ?_
  refine cIf (fun h2=>?_) (fun h2=>?_)
  ·rw [if_pos h2] at hsu
   have hs:(eO a.outer (ys.take (i+1))).map D.s=(eO a.outer (ys.take i)).map D.s++[.s ys[i]]:=by rw [hsu,List.map_append];rfl
   refine kgo ?_
   exact ab (i+1) hlt (by omega)
  ·rw [if_neg (by rw [h2];exact Bool.false_ne_true)] at hsu
   have hs:(eO a.outer (ys.take (i+1))).map D.s=(eO a.outer (ys.take i)).map D.s:=by rw [hsu]
   refine kgo ?_
   exact ab (i+1) hlt (by omega)
 ·have h:=of_decide_eq_false h
  rw [List.take_of_length_le (by omega)]
  repeat (first|refine cFz 8 ?_|(refine ck ?_;first|refine bd ?_|refine cC ?_|refine bo ?_|refine bl ?_|refine aY ?_|refine br ?_|refine bw ?_|refine aK ?_|refine bp ?_)|(refine gv ?_;first|refine cd ?_|refine gg ?_|refine ct ?_|refine cz ?_)|(refine gj ?_;first|refine eV (fun _=>?_)|refine cu ?_|refine cq ?_|refine bT ?_|refine ci ?_|refine cw ?_)|(refine gu ?_;first|refine cK ?_|refine fy ?_|refine cH ?_|refine bY ?_|refine cF ?_|refine cE ?_)|(refine fV ?_;first|refine gq ?_|refine fQ ?_|refine ch ?_|refine cb ?_|refine fZ ?_|refine bf ?_|refine bm ?_)|(refine cm ?_;first|refine be ?_|refine cI ?_)|(refine fY ?_;first|refine cG ?_|refine cA ?_|refine gm ?_)|(refine cj ?_;first|refine cr ?_|refine bj ?_|refine bc ?_|refine bk ?_|refine aX ?_|refine bu ?_)|(refine gr ?_;first|refine cB ?_|refine fS ?_|refine bq ?_)|(refine aW ?_;first|refine aC _ ?_|refine bt ?_|refine aG ?_|refine aE ?_|refine aJ ?_)|(refine gh ?_;first|refine co ?_|refine b7 ?_|refine cy ?_)|(refine gOp ?_;first|refine gx ?_|refine gd ?_|refine bh ?_|refine fX ?_|refine fW ?_|refine cJ ?_|refine aZ ?_|refine cg ?_|refine gw ?_|refine b8 ?_|refine cL ?_|refine bg ?_|refine aH ?_|refine cD ?_|refine sNo ?_)|refine gC ?_|refine fa ?_|refine gG ?_|refine bA ?_|refine cM ?_|refine bP ?_|refine gL ?_|refine gF ?_|refine gA ?_|refine fm ?_|refine cQ ?_|refine bD ?_|refine aB ?_|refine bB ?_|refine cO ?_|refine bN ?_|refine aBlkX ?_|refine cP ?_)
  exact iN
def mq (sig:List Ctl) (mid ctx par:Big):Big × Bool:=
 if (n9 sig mid (idB (eO mid.outer (ctx.inner.map Wr.name)))).2 then (if (eS sig ctx (n9 sig mid (idB (eO mid.outer (ctx.inner.map Wr.name)))).1).2 then eS sig (eS sig ctx (n9 sig mid (idB (eO mid.outer (ctx.inner.map Wr.name)))).1).1 par else (eE,false)) else (eE,false)
theorem wh (sig:List Ctl) (a b:Big):(n9 sig a b).1.inner.length≤a.inner.length+b.inner.length:=by
 unfold n9
 split
 ·rw [ox];omega
 ·exact Nat.zero_le _
theorem s9 (sig:List Ctl) (a b:Big):(eS sig a b).1.inner.length≤b.inner.length:=by
 unfold eS
 split
 ·rw [qZ];omega
 ·exact Nat.zero_le _
theorem xo (sig:List Ctl) (mid ctx par:Big) (hl:mid.inner.length+ctx.inner.length≤1000) (hp:par.inner.length≤1000):FnD Tryz.prog 137 [.l 3 (sig.map Ctl.D),mid.D,ctx.D,par.D] (.tp [(mq sig mid ctx par).1.D,.b (mq sig mid ctx par).2]):=by
 have f1:=xj sig mid ctx (by omega) (by omega)
 have hr:(eO mid.outer (ctx.inner.map Wr.name)).length≤ctx.inner.length:=Nat.le_trans (List.length_filter_le _ _) (by rw [List.length_map];omega)
 refine ai Tryz.func137 (fun hw W0=>?_)
 unfold mq
 revert f1 hr
 generalize eO mid.outer (ctx.inner.map Wr.name)=ns
 intro f1 hr
 have hb:=wh sig mid (idB ns)
 rw [show (idB ns).inner.length=ns.length from by unfold idB;simp] at hb
 revert f1 hb
 generalize n9 sig mid (idB ns)=r
 obtain ⟨r,k⟩:=r
 intro f1 hb
 cases k
 ·refine kgo ?_
  exact iN
 have f2:=oF sig ctx r (by omega) (by simp only at hb;omega)
 have hc:=s9 sig ctx r
 simp only [if_true]
 revert f2 hc
 generalize eS sig ctx r=q
 obtain ⟨q,k⟩:=q
 intro f2 hc
 cases k
 ·refine kgo ?_
  exact iN
 have f3:=oF sig q par (by simp only at hb hc;omega) hp
 refine kgo ?_
 exact iN
end Go.Proofs.YtclpbhoekmecjaaGreatDoor
namespace Go.Proofs.YtclpbhoekmecjaaGreatDoor
open Go.RowKit
set_option linter.unusedVariables false
set_option maxRecDepth 100000
set_option maxHeartbeats 4000000
attribute [local irreducible] az Der At
abbrev mw (x:Int × Int):D:=.t [.i x.1,.i x.2]
theorem D7:Lik dV mw:=⟨fun w S x cs h=>by
 obtain ⟨c,e,rfl,⟨rfl,h1⟩,c',e',rfl,⟨rfl,h2⟩,rfl⟩:=h
 exact ⟨rfl,h1,h2⟩,fun w lo hi x cs h=>by
 obtain ⟨rfl,h1,h2⟩:=h
 exact ⟨[_],[_],rfl,⟨rfl,h1⟩,[_],[],rfl,⟨rfl,h2⟩,rfl⟩⟩
theorem lP (b:Big) (l:Int) (hn:b.nodes.length≤1000) (hl:∀i (h:i<b.nodes.length),(b.nodes[i]).links.length≤1000):FnD Tryz.prog 230 [b.D,.i l] (.d (.l 2 ((aw b l).map mw))):=⟨bX Tryz.func230,fun F w vs hv hF=>by
 obtain ⟨v1,t,rfl,h1,v2,t2,rfl,⟨h2,_⟩,h3⟩:=hv
 cases (show t2 = [] from h3)
 obtain ⟨cs,rfl,hb⟩:=ne h1
 cases h2
 refine (iz _ _ _ _ _ _ hb hn hl).mono ?_
 rintro e w' ⟨v,rfl,hV,hX⟩
 exact ⟨_,rfl,hX,nJ (D7.ofV hV)⟩⟩
theorem lV (b:Big) (p:Int) (hl:b.sites.length≤1048576):FnD Tryz.prog 195 [b.D,.i p] (.d (DI (ba b p))):=⟨bX Tryz.func195,fun F w vs hv hF=>by
 obtain ⟨v1,t,rfl,h1,v2,t2,rfl,⟨h2,_⟩,h3⟩:=hv
 cases (show t2 = [] from h3)
 obtain ⟨cs,rfl,hb⟩:=ne h1
 cases h2
 refine (py _ _ _ _ _ _ hb hl).mono ?_
 rintro e w' ⟨v,rfl,hV,hX⟩
 exact ⟨_,rfl,hX,nJ (yG.ofV hV)⟩⟩
def mG (row:List Bool) (v:Bool) (ps:List (Int × Int)):Nat:=(ps.filter fun p=>row.getD p.1.toNat false == v).length
theorem yc (row:List Bool) (v:Bool) (ps:List (Int × Int)) (i:Nat) (h:i<ps.length):mG row v (ps.take (i+1))=if (row.getD (ps[i]).1.toNat false == v)=true then mG row v (ps.take i)+1 else mG row v (ps.take i):=by
 unfold mG
 rw [List.take_succ_eq_append_getElem h,List.filter_append]
 by_cases hh:(row.getD (ps[i]).1.toNat false == v)=true
 ·rw [if_pos hh];simp only [List.length_append,List.filter_cons,hh,if_true,List.filter_nil,List.length_cons,List.length_nil]
 ·rw [if_neg hh];simp only [List.length_append,List.filter_cons,if_neg hh,List.filter_nil,List.length_nil,Nat.add_zero]
theorem eY (b:Big) (l:Int) (hn:b.nodes.length≤1000) (hl:∀i (h:i<b.nodes.length),(b.nodes[i]).links.length≤1000):(aw b l).length≤1000000:=by
 have:=gT b l b.nodes.length (Nat.le_refl _) hl
 unfold aw
 omega
theorem CF (b:Big) (l:Int) (row:List Bool) (v:Bool) (hn:b.nodes.length≤1000) (hl:∀i (h:i<b.nodes.length),(b.nodes[i]).links.length≤1000) (hr:b.nodes.length≤row.length):FnD Tryz.prog 198 [b.D,.i l,.l 1 (row.map .b),.b v] (.d (.i (mG row v (aw b l)))):=by
 have f1:=lP b l hn hl
 have hp:∀q∈aw b l,∃n:Nat,q.1=(n:Int)∧n<row.length:=fun q hq=>by
  obtain ⟨i,k,hi,_,_,e⟩:=dG.1 hq
  exact ⟨i,by rw [e],by omega⟩
 refine ai Tryz.func198 (fun hw W0=>?_)
 have hpl:(aw b l).length≤1000000:=eY b l hn hl
 revert f1 hp hpl
 generalize aw b l=ps
 intro f1 hp hpl
 refine kgo ?_
 refine eQ (fun i:Nat=>i≤ps.length) (fun i=>ps.length - i) (fun i=>[(2,.sy (.d (.l 1 (row.map .b)))),(3,.sy (.d (.b v))),(9,.sy (.d (.l 2 (ps.map mw)))),(10,.sy (.d (.i (mG row v (ps.take i))))),(11,.sy (.d (.i i)))]) 0 (Nat.zero_le _) (fun i hi=>?_)
 refine kgo ?_
 refine cIf (fun h=>?_) (fun h=>?_)
 ·have h:=of_decide_eq_true h
  have hlt:i<ps.length:=by omega
  obtain ⟨n,hq,hnr⟩:=hp _ (List.getElem_mem hlt)
  have hsu:=yc row v ps i hlt
  have hm:mG row v (ps.take i)≤ps.length:=Nat.le_trans (List.length_filter_le _ _) (by rw [List.length_take];omega)
  rw [hq,show (n:Int).toNat=n from rfl,List.getD_eq_getElem?_getD,List.getElem?_eq_getElem hnr,Option.getD_some] at hsu
  refine kgo ?_
  refine eV (n:=n) (fun _=>?_) rfl rfl (congrArg some hq)
  refine kgo ?_
  refine cIf (fun h2=>?_) (fun h2=>?_)
  ·rw [if_pos h2] at hsu
   have hs:D.i ((mG row v (ps.take (i+1)):Nat):Int)=D.i ((mG row v (ps.take i):Nat)+1):=by rw [hsu];rfl
   refine kgo ?_
   exact ab (i+1) hlt (by omega)
  ·rw [if_neg (by rw [h2];exact Bool.false_ne_true)] at hsu
   have hs:D.i ((mG row v (ps.take (i+1)):Nat):Int)=D.i (mG row v (ps.take i):Nat):=by rw [hsu]
   refine kgo ?_
   exact ab (i+1) hlt (by omega)
 ·have h:=of_decide_eq_false h
  refine kgo ?_
  rw [List.take_of_length_le (by omega)]
  exact ax
theorem BX (r:Big) (m:Mat) (p:Int) (hl:r.sites.length≤1000) (hs:fH m.nodes p=true) (hh:0<(ba r (di m.nodes p)).length):FnD Tryz.prog 204 [r.D,m.D,.i p] (.d (.i (kP r m.nodes p))):=by
 refine ai Tryz.func204 (fun hw W0=>?_)
 have hml:=(wfM hw.2.1.1).1
 refine kgo ?_
 refine eQ (fun i:Nat=>i≤m.nodes.length∧fH (m.nodes.take i) p=false) (fun i=>m.nodes.length - i) (fun i=>[(2,.sy (.d (.i p))),(3,.sy (.bx 10003 0)),(10003,.tk (.bx (flat r.D))),(4,.sy (.bx 10004 0)),(10004,.tk (.bx (flat m.D))),(7,.sy (.d (.i i)))]) 0 ⟨Nat.zero_le _,rfl⟩ (fun i hi=>?_)
 refine kgo ?_
 refine cIf (fun h=>?_) (fun h=>?_)
 ·have h:=of_decide_eq_true h
  have hlt:i<m.nodes.length:=by omega
  refine kgo ?_
  refine cIf (fun h2=>?_) (fun h2=>?_)
  ·have h2:=of_decide_eq_true h2
   have hix:di m.nodes p=(i:Int):=vr p m.nodes i hlt h2 (by have:=hi.2;unfold fH at this;rw [← this];congr 1;funext x;exact Bool.beq_comm ..)
   have f1:=lV r i (by omega)
   rw [← hix] at f1
   have f1:FnD Tryz.prog 195 [r.D,.i i] (.d (DI (ba r (di m.nodes p)))):=by rw [hix] at f1 ⊢;exact f1
   have hz:(0:Int)≤0∧(0:Int)<((ba r (di m.nodes p)).length:Int):=⟨Int.le_refl _,by omega⟩
   have hso:kP r m.nodes p=(ba r (di m.nodes p))[0]:=by unfold kP atI;simp [List.getElem?_eq_getElem hh]
   refine kgo ?_
   rw [hso]
   exact ax
  ·have h2:=of_decide_eq_false h2
   have hx:fH (m.nodes.take (i+1)) p=false:=by
    have:=hi.2
    unfold fH at this ⊢
    rw [List.take_succ_eq_append_getElem hlt,List.any_append,this]
    simp;omega
   refine kgo ?_
   exact ab (i+1) ⟨hlt,hx⟩ (by omega)
 ·have h:=of_decide_eq_false h
  have:=hi.2
  rw [List.take_of_length_le (by omega),hs] at this
  cases this
theorem A3:∀i:Fin 26,(⟨#[97,98,99,100,101,102,103,104,105,106,107,108,109,110,111,112,113,114,115,116,117,118,119,120,121,122]⟩:ByteArray).extract i (i+1)=⟨#[UInt8.ofNat (97+i)]⟩:=by decide
theorem xL (i:Nat) (hi:i<26):FnD Tryz.prog 199 [.i i] (.d (.s ⟨#[UInt8.ofNat (97+i)]⟩)):=by
 refine ai Tryz.func199 (fun hw W0=>?_)
 have hij:i≤i+1∧i+1≤(⟨#[97,98,99,100,101,102,103,104,105,106,107,108,109,110,111,112,113,114,115,116,117,118,119,120,121,122]⟩:ByteArray).size:=⟨by omega,by show i+1≤26;omega⟩
 have hl:=A3 ⟨i,hi⟩
 simp only at hl
 rw [← hl]
 refine kgo ?_
 exact ax
end Go.Proofs.YtclpbhoekmecjaaGreatDoor
namespace Go.Proofs.YtclpbhoekmecjaaGreatDoor
open Go.RowKit
set_option linter.unusedVariables false
set_option maxRecDepth 100000
set_option maxHeartbeats 4000000
attribute [local irreducible] az Der At
def tkF (row:List Bool) (v:Bool) (i:Nat):Bool:=row.getD i false == v
def atN (row:List Bool) (v:Bool) (i:Nat):Int:=((List.range i).filter (tkF row v)).length
def atL (row:List Bool) (v:Bool) (n:Nat):List Int:=(List.range n).map (atN row v)
def sO (row:List Bool) (v dn:Bool) (p:Int):Int:=if decide (0≤p) && tkF row v p.toNat then atN row v p.toNat else if dn then -1 else p
def Fo (row:List Bool) (v dn:Bool) (ks:List Int) (n:Nd):Nd:=⟨n.control,sO row v dn n.parent,ez ks n.links⟩
def gE (b:Big) (row:List Bool) (v dn:Bool) (ks:List Int) (n:Nat):List Nd:=((List.range n).filter (tkF row v)).map fun (i:Nat)=>Fo row v dn ks (eA b (i:Int))
theorem AQ (b:Big) (row:List Bool) (v dn:Bool) (ks:List Int) (n:Nat):((gE b row v dn ks n).length:Int)=atN row v n:=by unfold gE atN;rw [List.length_map]
theorem BH (b:Big) (row:List Bool) (v dn:Bool) (ks:List Int) (n:Nat):(gE b row v dn ks n).length≤n:=by
 unfold gE;rw [List.length_map];exact Nat.le_trans (List.length_filter_le _ _) (by rw [List.length_range];exact Nat.le_refl _)
theorem xI (b:Big) (row:List Bool) (v dn:Bool) (ks:List Int) (n:Nat):gE b row v dn ks (n+1)=if tkF row v n=true then gE b row v dn ks n++[Fo row v dn ks (eA b n)] else gE b row v dn ks n:=by
 unfold gE
 rw [List.range_succ,List.filter_append]
 by_cases h:tkF row v n=true <;> simp [h]
theorem vW (row:List Bool) (v:Bool) (n:Nat):atL row v (n+1)=atL row v n++[atN row v n]:=by unfold atL;rw [List.range_succ,List.map_append];rfl
theorem jh (row:List Bool) (v:Bool) (n:Nat):(atL row v n).length=n:=by unfold atL;simp
theorem Gc (row:List Bool) (v:Bool) (n i:Nat) (h:i<(atL row v n).length):(atL row v n)[i]=atN row v i:=by simp [atL]
theorem rP (row:List Bool) (v:Bool) (i:Nat) (h:i<row.length):tkF row v i=(row[i] == v):=by unfold tkF;rw [List.getD_eq_getElem?_getD,List.getElem?_eq_getElem h];rfl
theorem wd (b:Big) (row:List Bool) (v dn:Bool) (ks:List Int) (hl:b.nodes.length≤1000) (hr:b.nodes.length≤row.length) (hup:∀i (h:i<b.nodes.length),(b.nodes[i]).parent<i) (hll:∀n∈b.nodes,n.links.length≤1000) (hlk:∀n∈b.nodes,∀l∈n.links,0≤l∧l<(ks.length:Int)):FnD Tryz.prog 202 [b.D,.l 1 (row.map .b),.b v,DI ks,.b dn] (.row 3 131 ((gE b row v dn ks b.nodes.length).map Nd.D)):=by
 refine ai Tryz.func202 (fun hw W0=>?_)
 refine kgo ?_
 refine eQ (fun i:Nat=>i≤b.nodes.length) (fun i=>b.nodes.length - i) (fun i=>[(1,.sy (.d (.l 1 (row.map .b)))),(2,.sy (.d (.b v))),(3,.sy (.d (DI ks))),(4,.sy (.d (.b dn))),(5,.sy (.bx 10005 0)),(10005,.tk (.bx (flat b.D))),(11,.sy (.k 10017)),(10017,.tk (.row 3 131 ((gE b row v dn ks i).map Nd.D))),(12,.sy (.k 10018)),(10018,.tk (.row 1 3 ((atL row v i).map .i))),(13,.sy (.d (.i i)))]) 0 (Nat.zero_le _) (fun i hi=>?_)
 refine kgo ?_
 refine cIf (fun h=>?_) (fun h=>?_)
 ·have h:=of_decide_eq_true h
  have hlt:i<b.nodes.length:=by omega
  have hir:i<row.length:=by omega
  have hm:=List.getElem_mem hlt
  have hL:=hll _ hm
  have hK:=hlk _ hm
  have hU:=hup i hlt
  have hq:=BH b row v dn ks i
  have hat:=jh row v i
  have hsa:(atL row v (i+1)).map D.i=(atL row v i).map D.i++[.i ((gE b row v dn ks i).map Nd.D).length]:=by rw [vW,List.map_append,List.length_map,AQ];rfl
  have hst:=xI b row v dn ks i
  rw [rP row v i hir,aA b i hlt] at hst
  refine kgo ?_
  refine cIf (fun h2=>?_) (fun h2=>?_)
  ·rw [Bool.not_eq_true'] at h2
   rw [if_neg (by rw [h2];exact Bool.false_ne_true)] at hst
   have hs:(gE b row v dn ks (i+1)).map Nd.D=(gE b row v dn ks i).map Nd.D:=by rw [hst]
   refine kgo ?_
   exact ab (i+1) hlt (by omega)
  ·rw [Bool.not_eq_false'] at h2
   rw [if_pos h2] at hst
   have hs:(gE b row v dn ks (i+1)).map Nd.D=(gE b row v dn ks i).map Nd.D++[Nd.D (Fo row v dn ks b.nodes[i])]:=by rw [hst,List.map_append];rfl
   refine kgo ?_
   cases hc:decide (0≤(b.nodes[i]).parent)
   have hT:sO row v dn (b.nodes[i]).parent=if dn=true then -1 else (b.nodes[i]).parent:=by unfold sO;rw [hc];rfl
   refine kgo ?_
   refine cIf (fun h4=>?_) (fun h4=>?_)
   have hP:D.i (sO row v dn (b.nodes[i]).parent)=D.i (-1):=by rw [hT,h4];rfl
   rotate_left
   have hP:D.i (sO row v dn (b.nodes[i]).parent)=D.i (b.nodes[i]).parent:=by rw [hT,h4];rfl
   rotate_left
   have hc':=of_decide_eq_true hc
   obtain ⟨j,hj⟩:=Int.eq_ofNat_of_zero_le hc'
   have hjr:j<row.length:=by omega
   have hT:sO row v dn (b.nodes[i]).parent=if (row[j] == v)=true then atN row v j else if dn=true then -1 else (b.nodes[i]).parent:=by unfold sO;rw [hc,hj,← rP row v j hjr];rfl
   refine kgo ?_
   refine eV (n:=j) (fun _=>?_) rfl rfl (congrArg some hj)
   refine kgo ?_
   refine cIf (fun h3=>?_) (fun h3=>?_)
   have hnj:j<((atL row v i).map D.i++[D.i ((gE b row v dn ks i).map Nd.D).length]).length:=by rw [List.length_append,List.length_map,hat];show j<i+1;omega
   have hnk:j<(atL row v (i+1)).length:=by rw [jh];omega
   have hP:D.i (sO row v dn (b.nodes[i]).parent)=D.i (atL row v (i+1))[j]:=by rw [hT,if_pos h3,Gc row v (i+1) j hnk]
   refine kgo ?_
   refine bT (n:=j) ?_ rfl rfl rfl (congrArg some hj)
   refine aY (f:=D.i) (l:=atL row v (i+1)) ?_ rfl (by exact jV rfl hsa.symm) hnk
   rotate_left
   rw [if_neg (by rw [h3];exact Bool.false_ne_true)] at hT
   refine kgo ?_
   refine cIf (fun h4=>?_) (fun h4=>?_)
   have hP:D.i (sO row v dn (b.nodes[i]).parent)=D.i (-1):=by rw [hT,h4];rfl
   rotate_left
   have hP:D.i (sO row v dn (b.nodes[i]).parent)=D.i (b.nodes[i]).parent:=by rw [hT,h4];rfl
   all_goals
    refine kgo ?_
    refine eQ (fun k:Nat=>k≤(b.nodes[i]).links.length) (fun k=>(b.nodes[i]).links.length - k) (fun k=>[(1,.sy (.d (.l 1 (row.map .b)))),(2,.sy (.d (.b v))),(3,.sy (.d (DI ks))),(4,.sy (.d (.b dn))),(5,.sy (.bx 10005 0)),(10005,.tk (.bx (flat b.D))),(11,.sy (.k 10017)),(10017,.tk (.row 3 131 ((gE b row v dn ks i).map Nd.D))),(12,.sy (.k 10030)),(10030,.tk (.row 1 3 ((atL row v (i+1)).map .i))),(13,.sy (.d (.i i))),(14,.sy (.d (.i (sO row v dn (b.nodes[i]).parent)))),(15,.sy (.k 10058)),(10058,.tk (.row 1 3 ((ez ks ((b.nodes[i]).links.take k)).map .i))),(16,.sy (.d (.i k)))]) 0 (Nat.zero_le _) (fun k hk=>?_)
    refine kgo ?_
    refine cIf (fun h5=>?_) (fun h5=>?_)
    ·have h5:=of_decide_eq_true h5
     have hkl:k<(b.nodes[i]).links.length:=by omega
     have hk2:=hK _ (List.getElem_mem hkl)
     have hs5:(ez ks ((b.nodes[i]).links.take (k+1))).map D.i=(ez ks ((b.nodes[i]).links.take k)).map D.i++[.i (atI ks (b.nodes[i]).links[k])]:=by rw [oQ ks k hkl,List.map_append];rfl
     have hq5:(ez ks ((b.nodes[i]).links.take k)).length≤1000:=by unfold ez;rw [List.length_map,List.length_take];omega
     refine kgo ?_
     exact ab (k+1) hkl (by omega)
    ·have h5:=of_decide_eq_false h5
     rw [show (b.nodes[i]).links.take k=(b.nodes[i]).links from List.take_of_length_le (by omega)]
     repeat (first|(refine ck ?_;first|refine bd ?_|refine cC ?_|refine bo ?_|refine bl ?_|refine aY ?_|refine br ?_|refine bw ?_|refine aK ?_|refine bp ?_)|(refine gv ?_;first|refine cd ?_|refine gg ?_|refine ct ?_|refine cz ?_)|(refine gj ?_;first|refine eV (fun _=>?_)|refine cu ?_|refine cq ?_|refine bT ?_|refine ci ?_|refine cw ?_)|(refine gu ?_;first|refine cK ?_|refine fy ?_|refine cH ?_|refine bY ?_|refine cF ?_|refine cE ?_)|(refine fV ?_;first|refine gq ?_|refine fQ ?_|refine ch ?_|refine cb ?_|refine fZ ?_|refine bf ?_|refine bm ?_)|(refine cm ?_;first|refine be ?_|refine cI ?_)|(refine fY ?_;first|refine cG ?_|refine cA ?_|refine gm ?_)|(refine cj ?_;first|refine cr ?_|refine bj ?_|refine bc ?_|refine bk ?_|refine aX ?_|refine bu ?_)|(refine gr ?_;first|refine cB ?_|refine fS ?_|refine bq ?_)|(refine aW ?_;first|refine aC _ ?_|refine bt ?_|refine aG ?_|refine aE ?_|refine aJ ?_)|(refine gh ?_;first|refine co ?_|refine b7 ?_|refine cy ?_)|(refine gOp ?_;first|refine gx ?_|refine gd ?_|refine bh ?_|refine fX ?_|refine fW ?_|refine cJ ?_|refine aZ ?_|refine cg ?_|refine gw ?_|refine b8 ?_|refine cL ?_|refine bg ?_|refine sFz 93 ?_|refine aH ?_|refine cD ?_|refine sNo ?_)|refine gC ?_|refine fa ?_|refine gG ?_|refine bA ?_|refine cM ?_|refine bP ?_|refine gL ?_|refine gF ?_|refine gA ?_|refine fm ?_|refine cQ ?_|refine bD ?_|refine aB ?_|refine bB ?_|refine cO ?_|refine bN ?_|refine aBlkX ?_|refine cP ?_|refine sFz 93 ?_)
     exact ab (i+1) hlt (by omega)
 ·have h:=of_decide_eq_false h
  refine kgo ?_
  rw [show i=b.nodes.length by omega]
  exact td
end Go.Proofs.YtclpbhoekmecjaaGreatDoor
namespace Go.Proofs.YtclpbhoekmecjaaGreatDoor
open Go.RowKit
set_option linter.unusedVariables false
set_option maxRecDepth 100000
set_option maxHeartbeats 4000000
attribute [local irreducible] az Der At
def oh (to:List Int) (p:Int):Int:=if p<0 then p else atI to p
theorem qR (p:Int) (to:List Int) (hp:p<to.length):FnD Tryz.prog 189 [.i p,DI to] (.d (.i (oh to p))):=by
 refine ai Tryz.func189 (fun hw W0=>?_)
 refine kgo ?_
 refine cIf (fun h=>?_) (fun h=>?_)
 ·have h:=of_decide_eq_true h
  rw [show oh to p=p from if_pos h]
  refine kgo ?_
  exact ax
 ·have h:=of_decide_eq_false h
  rw [show oh to p=atI to p from if_neg h]
  refine kgo ?_
  exact ax
theorem Bc {sig:List Ctl} {r a:Big} (m:Mat) (hbr:ay sig r=true) (hba:ay sig a=true) (him:mf r a m.nodes) (hp0:∀l:Nat,l<ap r→aw r l≠[]):FnD Tryz.prog 132 [r.D,a.D,m.D] (.tp [DI (ly r a m.nodes),.b (dO r a m.nodes)]):=⟨bX Tryz.func132,fun F w vs hv hF=>by
 obtain ⟨v1,t,rfl,h1,v2,t2,rfl,h2,v3,t3,rfl,h3,h4⟩:=hv
 cases (show t3 = [] from h4)
 obtain ⟨cs,rfl,hb1⟩:=ne h1
 obtain ⟨ds,rfl,hb2⟩:=ne h2
 obtain ⟨es,rfl,c,e,rfl,q1,c',e',rfl,q2,q3⟩:=h3
 cases (show e' = [] from q3)
 obtain ⟨v1,rfl,q1⟩:=k8 q1
 obtain ⟨v2,rfl,q2⟩:=k8 q2
 refine (pm _ _ _ _ 0 w.heap.size cs ds r a v1 v2 m.nodes m.roots sig w hb1 hb2 (yG.toV (by decide) q1) (yG.toV (by decide) q2) hbr hba him hp0).mono ?_
 rintro e w' ⟨v,rfl,hV,hX⟩
 exact ⟨_,rfl,hX,[_,_],rfl,_,_,rfl,nJ (yG.ofV hV),_,_,rfl,rfl,rfl⟩⟩
end Go.Proofs.YtclpbhoekmecjaaGreatDoor
namespace Go.Proofs.YtclpbhoekmecjaaGreatDoor
open Go.RowKit
set_option linter.unusedVariables false
set_option maxRecDepth 100000
set_option maxHeartbeats 4000000
attribute [local irreducible] az Der At
def fj (ims:List Int) (re l:Nat):Bool:=!fH (ims.take re) l
def iF (f:Nat→Bool) (n:Nat):Int:=((List.range n).filter f).length
def i5 (f:Nat→Bool) (n:Nat):List Int:=(List.range n).map fun l=>if f l=true then iF f l else -1
theorem xS (f:Nat→Bool) (n:Nat):i5 f (n+1)=i5 f n++[if f n=true then iF f n else -1]:=by unfold i5;rw [List.range_succ,List.map_append];rfl
theorem xt (f:Nat→Bool) (n:Nat):iF f (n+1)=if f n=true then iF f n+1 else iF f n:=by
 unfold iF
 rw [List.range_succ,List.filter_append]
 by_cases h:f n=true <;> simp [h]
theorem wH (f:Nat→Bool) (n:Nat):0≤iF f n∧iF f n≤n:=by
 unfold iF
 have:=List.length_filter_le f (List.range n)
 rw [List.length_range] at this
 omega
def DL (a:Big) (ns:List Int) (k:Nat):Bool:=!g9 a ns k
def dm (a:Big) (ns:List Int) (n:Nat):List Bool:=(List.range n).map (DL a ns)
theorem vi (a:Big) (ns:List Int) (n:Nat):dm a ns (n+1)=dm a ns n++[DL a ns n]:=by unfold dm;rw [List.range_succ,List.map_append];rfl
theorem CC (row:List Bool) (v:Bool) (n:Nat):atN row v (n+1)=if tkF row v n=true then atN row v n+1 else atN row v n:=by
 unfold atN
 rw [List.range_succ,List.filter_append]
 by_cases h:tkF row v n=true <;> simp [h]
theorem FQ (row:List Bool) (v:Bool) (n:Nat):0≤atN row v n∧atN row v n≤n:=by
 unfold atN
 have:=List.length_filter_le (tkF row v) (List.range n)
 rw [List.length_range] at this
 omega
def toK (row:List Bool) (i k:Nat):List Int:=atL row true i++[atN row true k]
theorem Ep (row:List Bool) (i k:Nat):(toK row i k).length=i+1:=by unfold toK;rw [List.length_append,jh];rfl
theorem Gl (row:List Bool) (i k:Nat) (h:i<(toK row i k).length):(toK row i k)[i]=atN row true k:=by
 have h1:(toK row i k)[i]? = some (atN row true k):=by
  unfold toK
  rw [List.getElem?_append_right (by rw [jh];exact Nat.le_refl _),jh,Nat.sub_self];rfl
 rw [List.getElem?_eq_getElem h] at h1
 exact Option.some.inj h1
theorem EM (row:List Bool) (i k:Nat) (x:Int) (hx:atN row true (k+1)=x):(toK row i k).set i x=toK row i (k+1):=by
 unfold toK
 rw [List.set_append_right _ _ (by rw [jh];exact Nat.le_refl _),jh,Nat.sub_self,hx];rfl
def lD (r a:Big) (ns:List Int):List Int:=i5 (fj (aF r a ns) r.edges.toNat) a.edges.toNat++eP (iF (fj (aF r a ns) r.edges.toNat) a.edges.toNat) a.outer.length
def oG (r:Big) (lk ims:List Int):List Wr:=r.outer.mapIdx fun i s=>⟨s,atI lk (atI ims (r.edges+i))⟩
def zW (lk ps:List Int) (names:List ByteArray):List Wr:=names.mapIdx fun i s=>⟨s,atI lk (atI ps i)⟩
def Fr (r a:Big) (m:Mat) (ps:List Int) (names:List ByteArray):Big:=
 ⟨a.roots,gE a (dm a m.nodes a.nodes.length) true false (lD r a m.nodes) a.nodes.length,m.roots.map (oh (atL (dm a m.nodes a.nodes.length) true a.nodes.length)),iF (fj (aF r a m.nodes) r.edges.toNat) a.edges.toNat,a.outer,bK (oG r (lD r a m.nodes) (aF r a m.nodes)) (zW (lD r a m.nodes) ps names)⟩
theorem AH {sig:List Ctl} {r a:Big} {ns:List Int} (h:mf r a ns) (hr:ay sig r=true) (ha:ay sig a=true) {l:Int} (hp:aw r l≠[]):dJ a (jd r a ns l)=true:=by
 cases hc:aw r l with
 | nil=>exact absurd hc hp
 | cons q u=>
  have h1:=h.img_link hr ha (q:=q) (l:=l) (by rw [hc];simp)
  rwa [show jd r a ns l=dE a ns q from by unfold jd;rw [hc]]
theorem Am {sig:List Ctl} {r a:Big} {ns:List Int} (h:mf r a ns) (hr:ay sig r=true) (ha:ay sig a=true) (hp0:∀l:Nat,l<ap r→aw r l≠[]) (j:Int) (h0:0≤j) (h1:j<(ap r:Int)):0≤atI (aF r a ns) j∧atI (aF r a ns) j<(ap a:Int):=by
 obtain ⟨k,rfl⟩:=Int.eq_ofNat_of_zero_le h0
 have hk:k<(aF r a ns).length:=by unfold aF;simp;omega
 rw [bJ _ k hk,show (aF r a ns)[k]=jd r a ns k from by simp [aF]]
 obtain ⟨n,h2,h3⟩:=gz (AH h hr ha (hp0 k (by omega)))
 rw [h2];omega
theorem uL (a b:List Wr) (w:Wr):bK a (b++[w])=bK (bK a b) [w]:=by unfold bK;rw [List.foldl_append]
theorem Bd (r:Big) (lk ims:List Int) (i:Nat) (h:i<r.outer.length):(oG r lk ims).take (i+1)=(oG r lk ims).take i++[⟨r.outer[i],atI lk (atI ims (r.edges+i))⟩]:=by
 have hl:i<(oG r lk ims).length:=by unfold oG;simpa using h
 rw [List.take_succ_eq_append_getElem hl];simp [oG]
theorem EE (lk ps:List Int) (names:List ByteArray) (i:Nat) (h:i<names.length):(zW lk ps names).take (i+1)=(zW lk ps names).take i++[⟨names[i],atI lk (atI ps i)⟩]:=by
 have hl:i<(zW lk ps names).length:=by unfold zW;simpa using h
 rw [List.take_succ_eq_append_getElem hl];simp [zW]
theorem vL {sig:List Ctl} {r a:Big} (m:Mat) (hbr:ay sig r=true) (hba:ay sig a=true) (him:mf r a m.nodes) (hp0:∀l:Nat,l<ap r→aw r l≠[]) (hL:dO r a m.nodes=true) (hrt:∀p∈m.roots,p<(a.nodes.length:Int)) (hrl:m.roots.length≤1000) (ps:List Int) (names:List ByteArray) (hps:∀l∈ps,0≤l∧l<(ap a:Int)) (hnm:names.length=ps.length) (hpl:ps.length≤500):FnD Tryz.prog 135 [r.D,a.D,m.D,DI ps,DS names] (.d (Fr r a m ps names).D):=by
 have f1:=Bc m hbr hba him hp0
 rw [hL,iT hL] at f1
 have ha:=aU hba
 have hr:=aU hbr
 obtain ⟨ae,hae⟩:=Int.eq_ofNat_of_zero_le ha.2.2.2.1.1
 obtain ⟨re,hre⟩:=Int.eq_ofNat_of_zero_le hr.2.2.2.1.1
 have hil:(aF r a m.nodes).length=ap r:=by unfold aF;simp
 have hix:=Am him hbr hba hp0
 have hE:Fr r a m ps names=⟨a.roots,gE a (dm a m.nodes a.nodes.length) true false (lD r a m.nodes) a.nodes.length,m.roots.map (oh (atL (dm a m.nodes a.nodes.length) true a.nodes.length)),iF (fj (aF r a m.nodes) re) ae,a.outer,bK (oG r (lD r a m.nodes) (aF r a m.nodes)) (zW (lD r a m.nodes) ps names)⟩:=by unfold Fr;rw [hae,hre];rfl
 have hlkE:lD r a m.nodes=i5 (fj (aF r a m.nodes) re) ae++eP (iF (fj (aF r a m.nodes) re) ae) a.outer.length:=by unfold lD;rw [hae,hre];rfl
 have hna:ap a=ae+a.outer.length:=by unfold ap;omega
 have hnr:ap r=re+r.outer.length:=by unfold ap;omega
 have hlkl:(lD r a m.nodes).length=ap a:=by rw [hlkE,List.length_append,eK,hna];unfold i5;simp
 have hup:=fun i h=>(iP hba i h).2
 have hnode:=eB hba
 have hnl:∀n∈a.nodes,n.links.length≤1000∧∀l∈n.links,0≤l∧l<(ap a:Int):=fun n hn=>by
  obtain ⟨k,hk,rfl⟩:=List.mem_iff_getElem.1 hn
  obtain ⟨_,_,_,c3,c4⟩:=hnode k hk
  refine ⟨by have:=(bG hba).7 k hk;omega,fun l hl=>?_⟩
  obtain ⟨j,rfl,hj⟩:=gz (c4 l hl)
  omega
 rw [hE]
 clear hE
 revert f1 hil hix hlkE hlkl
 generalize aF r a m.nodes=ims
 generalize lD r a m.nodes=lk
 intro f1 hil hix hlkE hlkl
 refine ai Tryz.func135 (fun hw W0=>?_)
 repeat (first|(refine ck ?_;first|refine bd ?_|refine cC ?_|refine bo ?_|refine bl ?_|refine aY ?_|refine br ?_|refine bw ?_|refine aK ?_|refine bp ?_)|(refine gv ?_;first|refine cd ?_|refine gg ?_|refine ct ?_|refine cz ?_)|(refine gj ?_;first|refine eV (fun _=>?_)|refine cu ?_|refine cq ?_|refine bT ?_|refine ci ?_|refine cw ?_)|(refine gu ?_;first|refine cK ?_|refine fy ?_|refine cH ?_|refine bY ?_|refine cF ?_|refine cE ?_)|(refine fV ?_;first|refine gq ?_|refine fQ ?_|refine ch ?_|refine cb ?_|refine fZ ?_|refine bf ?_|refine bm ?_)|(refine cm ?_;first|refine be ?_|refine cI ?_)|(refine fY ?_;first|refine cG ?_|refine cA ?_|refine gm ?_)|(refine cj ?_;first|refine cr ?_|refine bj ?_|refine bc ?_|refine bk ?_|refine aX ?_|refine bu ?_)|(refine gr ?_;first|refine cB ?_|refine fS ?_|refine bq ?_)|(refine aW ?_;first|refine aC _ ?_|refine bt ?_|refine aG ?_|refine aE ?_|refine aJ ?_)|(refine gh ?_;first|refine co ?_|refine b7 ?_|refine cy ?_)|(refine gOp ?_;first|refine gx ?_|refine gd ?_|refine bh ?_|refine fX ?_|refine fW ?_|refine cJ ?_|refine aZ ?_|refine cg ?_|refine gw ?_|refine b8 ?_|refine cL ?_|refine bg ?_|refine sFz 36 ?_|refine aH ?_|refine cD ?_|refine sNo ?_)|refine gC ?_|refine fa ?_|refine gG ?_|refine bA ?_|refine cM ?_|refine bP ?_|refine gL ?_|refine gF ?_|refine gA ?_|refine fm ?_|refine cQ ?_|refine bD ?_|refine aB ?_|refine bB ?_|refine cO ?_|refine bN ?_|refine aBlkX ?_|refine cP ?_|refine sFz 36 ?_)
 refine ar [3,4,5,6,7,10,11,13] (fun i:Nat=>i≤ae) (fun i=>ae - i) (fun i=>[(10013,.tk (.bx [.d (.i a.roots),.d (.n 3),.d (.n 1),.d (.i (iF (fj ims re) i)),.d (DS a.outer),.d (.n 2)])),(14,.sy (.k 10038)),(10038,.tk (.row 1 3 ((i5 (fj ims re) i).map .i))),(15,.sy (.d (.i i)))]) 0 (Nat.zero_le _) (fun i hi=>?_)
 refine kgo ?_
 refine aV (fun h=>?_) (fun h=>?_)
 ·have hlt:i<ae:=by omega
  have f2:=mB (ims.take re) i
  have hq:=xS (fj ims re) i
  have hn1:=xt (fj ims re) i
  have hn2:=wH (fj ims re) i
  have hkl:(i5 (fj ims re) i).length=i:=by unfold i5;simp
  refine kgo ?_
  refine b7 (n:=re) ?_ rfl rfl (congrArg some hre)
  cases hk:fH (ims.take re) i
  ·rw [hk] at f2
   have hf:fj ims re i=true:=by unfold fj;rw [hk];rfl
   rw [if_pos hf] at hq hn1
   have hs:(i5 (fj ims re) (i+1)).map D.i=(i5 (fj ims re) i).map D.i++[.i (iF (fj ims re) i)]:=by rw [hq,List.map_append];rfl
   refine kgo ?_
   rw [← hn1]
   exact ab (i+1) hlt (by omega)
  ·rw [hk] at f2
   have hf:¬fj ims re i=true:=by unfold fj;rw [hk];exact Bool.false_ne_true
   rw [if_neg hf] at hq hn1
   have hs:(i5 (fj ims re) (i+1)).map D.i=(i5 (fj ims re) i).map D.i++[.i (-1)]:=by rw [hq,List.map_append];rfl
   refine kgo ?_
   rw [← hn1]
   exact ab (i+1) hlt (by omega)
 rw [show i=ae by omega]
 have hkn:=wH (fj ims re) ae
 have f3:=gM (iF (fj ims re) ae) a.outer.length (by omega) (by omega)
 rw [Int.toNat_natCast] at f3
 have hkl:(i5 (fj ims re) ae).length=ae:=by unfold i5;simp
 have hfl:=eK (iF (fj ims re) ae) a.outer.length
 have hlkD:lk.map D.i=(i5 (fj ims re) ae++eP (iF (fj ims re) ae) a.outer.length).map D.i:=by rw [hlkE]
 have hmove:∀p∈m.roots,FnD Tryz.prog 189 [.i p,DI (atL (dm a m.nodes a.nodes.length) true a.nodes.length)] (.d (.i (oh (atL (dm a m.nodes a.nodes.length) true a.nodes.length) p))):=fun p hp=>qR p _ (by rw [jh];exact hrt p hp)
 have hrr:∀k,k<a.nodes.length→tkF (dm a m.nodes a.nodes.length) true k=DL a m.nodes k:=fun k hk=>by
  rw [rP _ _ _ (by unfold dm;simpa using hk)]
  simp [dm]
 have hrrl:(dm a m.nodes a.nodes.length).length=a.nodes.length:=by unfold dm;simp
 have f5:=wd a (dm a m.nodes a.nodes.length) true false lk (by omega) (by omega) hup (fun n hn=>(hnl n hn).1) (fun n hn l hl=>by rw [hlkl];exact (hnl n hn).2 l hl)
 revert hmove hrr hrrl f5
 generalize hgr:dm a m.nodes a.nodes.length=rr
 intro hmove hrr hrrl f5
 repeat (first|(refine ck ?_;first|refine bd ?_|refine cC ?_|refine bo ?_|refine bl ?_|refine aY ?_|refine br ?_|refine bw ?_|refine aK ?_|refine bp ?_)|(refine gv ?_;first|refine cd ?_|refine gg ?_|refine ct ?_|refine cz ?_)|(refine gj ?_;first|refine eV (fun _=>?_)|refine cu ?_|refine cq ?_|refine bT ?_|refine ci ?_|refine cw ?_)|(refine gu ?_;first|refine cK ?_|refine fy ?_|refine cH ?_|refine bY ?_|refine cF ?_|refine cE ?_)|(refine fV ?_;first|refine gq ?_|refine fQ ?_|refine ch ?_|refine cb ?_|refine fZ ?_|refine bf ?_|refine bm ?_)|(refine cm ?_;first|refine be ?_|refine cI ?_)|(refine fY ?_;first|refine cG ?_|refine cA ?_|refine gm ?_)|(refine cj ?_;first|refine cr ?_|refine bj ?_|refine bc ?_|refine bk ?_|refine aX ?_|refine bu ?_)|(refine gr ?_;first|refine cB ?_|refine fS ?_|refine bq ?_)|(refine aW ?_;first|refine aC _ ?_|refine bt ?_|refine aG ?_|refine aE ?_|refine aJ ?_)|(refine gh ?_;first|refine co ?_|refine b7 ?_|refine cy ?_)|(refine gOp ?_;first|refine gx ?_|refine gd ?_|refine bh ?_|refine fX ?_|refine fW ?_|refine cJ ?_|refine aZ ?_|refine cg ?_|refine gw ?_|refine b8 ?_|refine cL ?_|refine bg ?_|refine sFz 69 ?_|refine aH ?_|refine cD ?_|refine sNo ?_)|refine gC ?_|refine fa ?_|refine gG ?_|refine bA ?_|refine cM ?_|refine bP ?_|refine gL ?_|refine gF ?_|refine gA ?_|refine fm ?_|refine cQ ?_|refine bD ?_|refine aB ?_|refine bB ?_|refine cO ?_|refine bN ?_|refine aBlkX ?_|refine cP ?_|refine sFz 69 ?_)
 rw [← hlkE]
 refine ar [3,4,5,6,7,10,11,13,14] (fun i:Nat=>i≤a.nodes.length) (fun i=>a.nodes.length - i) (fun i=>[(16,.sy (.k 10071)),(10071,.tk (.row 1 4 ((dm a m.nodes i).map .b))),(17,.sy (.k 10072)),(10072,.tk (.row 1 3 ((atL rr true i).map .i))),(18,.sy (.d (.i i)))]) 0 (Nat.zero_le _) (fun i hi=>?_)
 refine kgo ?_
 refine aV (fun h=>?_) (fun h=>?_)
 ·have hlt:i<a.nodes.length:=by omega
  have hal:=jh rr true i
  have hol:(dm a m.nodes i).length=i:=by unfold dm;simp
  have hs0:(toK rr i 0).map D.i=(atL rr true i).map D.i++[.i 0]:=by unfold toK;rw [List.map_append];rfl
  refine kgo ?_
  refine ar [3,4,5,6,7,10,11,13,14,16,17,18] (fun k:Nat=>k≤i) (fun k=>i - k) (fun k=>[(17,.sy (.k 10082)),(10082,.tk (.row 1 3 ((toK rr i k).map .i))),(19,.sy (.d (.i k)))]) 0 (Nat.zero_le _) (fun k hk=>?_)
  refine kgo ?_
  refine aV (fun h2=>?_) (fun h2=>?_)
  ·have hki:k<i:=by omega
   have hkr:k<(dm a m.nodes i).length:=by omega
   have hek:(dm a m.nodes i)[k]=tkF rr true k:=by rw [hrr k (by omega)];simp [dm]
   have htl:=Ep rr i k
   have hsn:=CC rr true k
   have hnl:=FQ rr true k
   have hil:i<(toK rr i k).length:=by omega
   have hat:=Gl rr i k hil
   have hb:I64 ((toK rr i k)[i]+1):=by rw [hat];unfold I64;omega
   refine kgo ?_
   refine cIf (fun h3=>?_) (fun h3=>?_)
   ·rw [hek] at h3
    rw [if_pos h3] at hsn
    have hst:=EM rr i k ((toK rr i k)[i]+1) (by rw [hat];exact hsn)
    refine kgo ?_
    rw [hst]
    exact ab (k+1) hki (by omega)
   ·rw [hek] at h3
    rw [if_neg (by rw [h3];exact Bool.false_ne_true)] at hsn
    have hs2:(toK rr i (k+1)).map D.i=(toK rr i k).map D.i:=by unfold toK;rw [hsn]
    refine kgo ?_
    exact ab (k+1) hki (by omega)
  ·have hki:k=i:=by omega
   subst hki
   have f6:=mx hba m k (by omega)
   have hs3:(dm a m.nodes (k+1)).map D.b=(dm a m.nodes k).map D.b++[.b (!g9 a m.nodes k)]:=by rw [vi,List.map_append];rfl
   have hs4:(atL rr true (k+1)).map D.i=(toK rr k k).map D.i:=by rw [vW];rfl
   refine kgo ?_
   exact ab (k+1) hlt (by omega)
 have hie:i=a.nodes.length:=by omega
 subst hie
 rw [hgr]
 repeat (first|refine cFz 14 ?_|refine cFz 16 ?_|refine cFz 17 ?_|(refine ck ?_;first|refine bd ?_|refine cC ?_|refine bo ?_|refine bl ?_|refine aY ?_|refine br ?_|refine bw ?_|refine aK ?_|refine bp ?_)|(refine gv ?_;first|refine cd ?_|refine gg ?_|refine ct ?_|refine cz ?_)|(refine gj ?_;first|refine eV (fun _=>?_)|refine cu ?_|refine cq ?_|refine bT ?_|refine ci ?_|refine cw ?_)|(refine gu ?_;first|refine cK ?_|refine fy ?_|refine cH ?_|refine bY ?_|refine cF ?_|refine cE ?_)|(refine fV ?_;first|refine gq ?_|refine fQ ?_|refine ch ?_|refine cb ?_|refine fZ ?_|refine bf ?_|refine bm ?_)|(refine cm ?_;first|refine be ?_|refine cI ?_)|(refine fY ?_;first|refine cG ?_|refine cA ?_|refine gm ?_)|(refine cj ?_;first|refine cr ?_|refine bj ?_|refine bc ?_|refine bk ?_|refine aX ?_|refine bu ?_)|(refine gr ?_;first|refine cB ?_|refine fS ?_|refine bq ?_)|(refine aW ?_;first|refine aC _ ?_|refine bt ?_|refine aG ?_|refine aE ?_|refine aJ ?_)|(refine gh ?_;first|refine co ?_|refine b7 ?_|refine cy ?_)|(refine gOp ?_;first|refine gx ?_|refine gd ?_|refine bh ?_|refine fX ?_|refine fW ?_|refine cJ ?_|refine aZ ?_|refine cg ?_|refine gw ?_|refine b8 ?_|refine cL ?_|refine bg ?_|refine aH ?_|refine cD ?_|refine sNo ?_)|refine gC ?_|refine fa ?_|refine gG ?_|refine bA ?_|refine cM ?_|refine bP ?_|refine gL ?_|refine gF ?_|refine gA ?_|refine fm ?_|refine cQ ?_|refine bD ?_|refine aB ?_|refine bB ?_|refine cO ?_|refine bN ?_|refine aBlkX ?_|refine cP ?_)
 refine nK 10013 1 ?_
 refine nx 10013 2 20001 3 ?_
 refine ar [3,4,5,7,10,11,13,14,17] (fun i:Nat=>i≤m.roots.length) (fun i=>m.roots.length - i) (fun i=>[(10013,.tk (.bx [.d (.i a.roots),.d (.l 3 ((gE a rr true false lk a.nodes.length).map Nd.D)),.k 20001,.d (.i (iF (fj ims re) ae)),.d (DS a.outer),.d (.n 2)])),(20001,.tk (.row 1 3 (((m.roots.take i).map (oh (atL rr true a.nodes.length))).map .i))),(20,.sy (.d (.i i)))]) 0 (Nat.zero_le _) (fun i hi=>?_)
 refine kgo ?_
 refine aV (fun h=>?_) (fun h=>?_)
 ·have hlt:i<m.roots.length:=by omega
  have f6:=hmove _ (List.getElem_mem hlt)
  have hs:((m.roots.take (i+1)).map (oh (atL rr true a.nodes.length))).map D.i=((m.roots.take i).map (oh (atL rr true a.nodes.length))).map D.i++[.i (oh (atL rr true a.nodes.length) m.roots[i])]:=by rw [List.take_succ_eq_append_getElem hlt,List.map_append,List.map_append];rfl
  have hq:((m.roots.take i).map (oh (atL rr true a.nodes.length))).length≤1000:=by rw [List.length_map,List.length_take];omega
  refine kgo ?_
  exact ab (i+1) hlt (by omega)
 rw [show m.roots.take i=m.roots from List.take_of_length_le (by omega)]
 refine nK 10013 2 ?_
 refine kgo ?_
 refine ar [3,4,5,10,11,13,14] (fun i:Nat=>i≤r.outer.length) (fun i=>r.outer.length - i) (fun i=>[(21,.sy (.k 20002)),(20002,.tk (.row 2 133 (((oG r lk ims).take i).map Wr.D))),(22,.sy (.d (.i i)))]) 0 (Nat.zero_le _) (fun i hi=>?_)
 refine kgo ?_
 refine aV (fun h=>?_) (fun h=>?_)
 ·have hlt:i<r.outer.length:=by omega
  have hx:=hix (r.edges+i) (by omega) (by omega)
  have hs:((oG r lk ims).take (i+1)).map Wr.D=((oG r lk ims).take i).map Wr.D++[Wr.D ⟨r.outer[i],atI lk (atI ims (r.edges+i))⟩]:=by rw [Bd r lk ims i hlt,List.map_append];rfl
  have hq:((oG r lk ims).take i).length≤1000:=by rw [List.length_take];omega
  refine kgo ?_
  exact ab (i+1) hlt (by omega)
 have hol:(oG r lk ims).length=r.outer.length:=by unfold oG;simp
 rw [show (oG r lk ims).take i=oG r lk ims from List.take_of_length_le (by omega)]
 refine cFz 21 ?_
 refine kgo ?_
 refine ar [3,4,10,13,14] (fun i:Nat=>i≤ps.length) (fun i=>ps.length - i) (fun i=>[(21,.sy (.d (.l 2 ((bK (oG r lk ims) ((zW lk ps names).take i)).map Wr.D)))),(23,.sy (.d (.i i)))]) 0 (Nat.zero_le _) (fun i hi=>?_)
 refine kgo ?_
 refine aV (fun h=>?_) (fun h=>?_)
 ·have hlt:i<ps.length:=by omega
  have hltn:i<names.length:=by omega
  have hx:=hps _ (List.getElem_mem hlt)
  have hl:(bK (oG r lk ims) ((zW lk ps names).take i)).length≤1000:=by have:=kh (oG r lk ims) ((zW lk ps names).take i);rw [List.length_take] at this;omega
  have f6:FnD Tryz.prog 203 [.l 2 ((bK (oG r lk ims) ((zW lk ps names).take i)).map Wr.D),.l 2 ([(⟨names[i],atI lk ps[i]⟩:Wr)].map Wr.D)] (.d (.l 2 ((bK (oG r lk ims) ((zW lk ps names).take (i+1))).map Wr.D))):=by
   rw [EE lk ps names i hltn,uL,bJ ps i hlt]
   exact th _ _ hl (by simp)
  repeat (first|(refine ck ?_;first|refine bd ?_|refine cC ?_|refine bo ?_|refine bl ?_|refine aY ?_|refine br ?_|refine bw ?_|refine aK ?_|refine bp ?_)|(refine gv ?_;first|refine cd ?_|refine gg ?_|refine ct ?_|refine cz ?_)|(refine gj ?_;first|refine eV (fun _=>?_)|refine cu ?_|refine cq ?_|refine bT ?_|refine ci ?_|refine cw ?_)|(refine gu ?_;first|refine cK ?_|refine fy ?_|refine cH ?_|refine bY ?_|refine cF ?_|refine cE ?_)|(refine fV ?_;first|refine gq ?_|refine fQ ?_|refine ch ?_|refine cb ?_|refine fZ ?_|refine bf ?_|refine bm ?_)|(refine cm ?_;first|refine be ?_|refine cI ?_)|(refine fY ?_;first|refine cG ?_|refine cA ?_|refine gm ?_)|(refine cj ?_;first|refine cr ?_|refine bj ?_|refine bc ?_|refine bk ?_|refine aX ?_|refine bu ?_)|(refine gr ?_;first|refine cB ?_|refine fS ?_|refine bq ?_)|(refine aW ?_;first|refine aC _ ?_|refine bt ?_|refine aG ?_|refine aE ?_|refine aJ ?_)|(refine gh ?_;first|refine co ?_|refine b7 ?_|refine cy ?_)|(refine gOp ?_;first|refine gx ?_|refine gd ?_|refine bh ?_|refine fX ?_|refine fW ?_|refine cJ ?_|refine aZ ?_|refine cg ?_|refine gw ?_|refine b8 ?_|refine cL ?_|refine bg ?_|refine sFz 178 ?_|refine aH ?_|refine cD ?_|refine sNo ?_)|refine gC ?_|refine fa ?_|refine gG ?_|refine bA ?_|refine cM ?_|refine bP ?_|refine gL ?_|refine gF ?_|refine gA ?_|refine fm ?_|refine cQ ?_|refine bD ?_|refine aB ?_|refine bB ?_|refine cO ?_|refine bN ?_|refine aBlkX ?_|refine cP ?_|refine sFz 178 ?_)
  exact ab (i+1) hlt (by omega)
 have hzl:(zW lk ps names).length=ps.length:=by unfold zW;simpa using hnm
 rw [show (zW lk ps names).take i=zW lk ps names from List.take_of_length_le (by omega)]
 refine kgo ?_
 exact ax
end Go.Proofs.YtclpbhoekmecjaaGreatDoor
namespace Go.Proofs.YtclpbhoekmecjaaGreatDoor
open Go.RowKit
set_option linter.unusedVariables false
set_option maxRecDepth 100000
set_option maxHeartbeats 4000000
attribute [local irreducible] az Der At
def psF (a:Big) (ns:List Int) (l:Nat):Bool:=decide (0<mG (dS a ns a.nodes.length) true (aw a l))
theorem uK (f:Nat→Bool) (n:Nat):idxOf f (n+1)=if f n=true then idxOf f n++[(n:Int)] else idxOf f n:=by
 unfold idxOf
 rw [List.range_succ,List.filter_append]
 by_cases h:f n=true <;> simp [h]
theorem w8 {α:Type} [DecidableEq α]:∀(xs ys:List α),xs.Nodup→(∀x∈xs,x∈ys)→xs.length≤ys.length
 | [],_,_,_=>Nat.zero_le _
 | x :: xs,ys,h,hs=>by
  have h1:=List.nodup_cons.1 h
  have hx:=hs x (by simp)
  have h2:=w8 xs (ys.erase x) h1.2 (fun y hy=>(List.mem_erase_of_ne (fun (e:y=x)=>h1.1 (by rw [← e];exact hy))).2 (hs y (by simp [hy])))
  rw [List.length_erase_of_mem hx] at h2
  have:=List.length_pos_of_mem hx
  rw [List.length_cons];omega
def kJ (outer:List ByteArray) (n:Nat):List ByteArray:=((List.range n).filter (kQ outer)).map mH
theorem o5 (outer:List ByteArray) (n:Nat):kJ outer (n+1)=if kQ outer n=true then kJ outer n++[mH n] else kJ outer n:=by
 unfold kJ
 rw [List.range_succ,List.filter_append]
 by_cases h:kQ outer n=true <;> simp [h]
theorem AG:∀i j:Fin 26,mH i=mH j→i=j:=by decide
theorem rT:∀i:Fin 26,(⟨#[122]⟩:ByteArray) ++ ⟨#[UInt8.ofNat (97+i)]⟩=mH i:=by decide
theorem vZ (f:Nat→Bool):∀n,((List.range n).filter f).length+((List.range n).filter (fun i=>!f i)).length=n
 | 0=>rfl
 | n+1=>by
  have:=vZ f n
  rw [List.range_succ,List.filter_append,List.filter_append]
  cases h:f n <;> simp [h] <;> omega
theorem yO (outer:List ByteArray) (n:Nat) (hn:n≤26):n≤(kJ outer n).length+outer.length:=by
 have h1:=vZ (kQ outer) n
 have h2:(((List.range n).filter (fun i=>!kQ outer i)).map mH).length≤outer.length:=w8 _ _ (by
  refine List.pairwise_map.2 (List.Pairwise.imp_of_mem (fun {x y} hx hy hne e=>hne ?_) (List.nodup_range.filter _))
  have hx:=List.mem_range.1 (List.mem_filter.1 hx).1
  have hy:=List.mem_range.1 (List.mem_filter.1 hy).1
  exact congrArg Fin.val (AG ⟨x,by omega⟩ ⟨y,by omega⟩ e)) (fun s hs=>by
  obtain ⟨i,hi,rfl⟩:=List.mem_map.1 hs
  have h3:=(List.mem_filter.1 hi).2
  unfold kQ at h3
  rw [Bool.not_not] at h3
  obtain ⟨x,hx,e⟩:=List.any_eq_true.1 h3
  rw [beq_iff_eq] at e
  rw [← ft e];exact hx)
 rw [List.length_map] at h2
 unfold kJ
 rw [List.length_map]
 omega
theorem sR (outer:List ByteArray) (i:Nat):∀d,∃t,kJ outer (i+d)=kJ outer i++t
 | 0=>⟨[],by simp⟩
 | d+1=>by
  obtain ⟨t,h⟩:=sR outer i d
  rw [show i+(d+1)=(i+d)+1 from rfl,o5,h]
  by_cases hf:kQ outer (i+d)=true
  ·exact ⟨t++[mH (i+d)],by rw [if_pos hf,List.append_assoc]⟩
  ·exact ⟨t,by rw [if_neg hf]⟩
theorem tm (outer:List ByteArray) (i:Nat) (hi:i≤26):bI outer (kJ outer i).length=kJ outer i:=by
 obtain ⟨t,h⟩:=sR outer i (26 - i)
 rw [show i+(26 - i)=26 by omega] at h
 show (kJ outer 26).take _=_
 rw [h];simp
def dH (r a:Big) (ns:List Int):List Int × List ByteArray × Bool:=
 if decide (16<((idxOf (psF a ns) (ap a)).length:Int)+r.outer.length) then ([],[],false) else (idxOf (psF a ns) (ap a),bI r.outer (idxOf (psF a ns) (ap a)).length,true)
theorem yv {sig:List Ctl} {r a:Big} (hB:ay sig a=true) (m:Mat) (hro:r.outer.length≤1000):FnD Tryz.prog 134 [r.D,a.D,m.D] (.tp [DI (dH r a m.nodes).1,DS (dH r a m.nodes).2.1,.b (dH r a m.nodes).2.2]):=by
 have ha:=aU hB
 have f1:=lw hB m
 have hpl:(dS a m.nodes a.nodes.length).length=a.nodes.length:=by simp [dS]
 have hll:=(bG hB).links
 refine ai Tryz.func134 (fun hw W0=>?_)
 refine kgo ?_
 refine eQ (fun i:Nat=>i≤ap a) (fun i=>ap a - i) (fun i=>[(3,.sy (.bx 10003 0)),(10003,.tk (.bx (flat r.D))),(4,.sy (.bx 10004 0)),(10004,.tk (.bx (flat a.D))),(9,.sy (.k 10015)),(10015,.tk (.row 1 3 (idxOf (psF a m.nodes) i |>.map .i))),(10,.sy (.k 10016)),(10016,.tk (.row 1 9 [])),(11,.sy (.d (.l 1 ((dS a m.nodes a.nodes.length).map .b)))),(12,.sy (.d (.i i)))]) 0 (Nat.zero_le _) (fun i hi=>?_)
 have hln:(ap a:Int)=a.edges+a.outer.length:=by unfold ap;omega
 refine kgo ?_
 refine cIf (fun h=>?_) (fun h=>?_)
 ·have h:=of_decide_eq_true h
  have hlt:i<ap a:=by omega
  have f2:=CF a i (dS a m.nodes a.nodes.length) true (by omega) hll (by omega)
  have hq:(idxOf (psF a m.nodes) i).length≤1000:=Nat.le_trans (dQ _ _) (by omega)
  have hsu:=uK (psF a m.nodes) i
  refine kgo ?_
  refine cIf (fun h2=>?_) (fun h2=>?_)
  ·have h3:psF a m.nodes i=true:=by unfold psF;have:=of_decide_eq_true h2;exact decide_eq_true (by omega)
   rw [if_pos h3] at hsu
   have hs:(idxOf (psF a m.nodes) (i+1)).map D.i=(idxOf (psF a m.nodes) i).map D.i++[.i i]:=by rw [hsu,List.map_append];rfl
   refine kgo ?_
   exact ab (i+1) hlt (by omega)
  ·have h3:¬psF a m.nodes i=true:=by unfold psF;have:=of_decide_eq_false h2;rw [decide_eq_true_eq];omega
   rw [if_neg h3] at hsu
   have hs:(idxOf (psF a m.nodes) (i+1)).map D.i=(idxOf (psF a m.nodes) i).map D.i:=by rw [hsu]
   refine kgo ?_
   exact ab (i+1) hlt (by omega)
 ·have h:=of_decide_eq_false h
  have hie:i=ap a:=by omega
  subst hie
  have hq:(idxOf (psF a m.nodes) (ap a)).length≤1000000:=Nat.le_trans (dQ _ _) (by omega)
  repeat (first|refine cFz 9 ?_|(refine ck ?_;first|refine bd ?_|refine cC ?_|refine bo ?_|refine bl ?_|refine aY ?_|refine br ?_|refine bw ?_|refine aK ?_|refine bp ?_)|(refine gv ?_;first|refine cd ?_|refine gg ?_|refine ct ?_|refine cz ?_)|(refine gj ?_;first|refine eV (fun _=>?_)|refine cu ?_|refine cq ?_|refine bT ?_|refine ci ?_|refine cw ?_)|(refine gu ?_;first|refine cK ?_|refine fy ?_|refine cH ?_|refine bY ?_|refine cF ?_|refine cE ?_)|(refine fV ?_;first|refine gq ?_|refine fQ ?_|refine ch ?_|refine cb ?_|refine fZ ?_|refine bf ?_|refine bm ?_)|(refine cm ?_;first|refine be ?_|refine cI ?_)|(refine fY ?_;first|refine cG ?_|refine cA ?_|refine gm ?_)|(refine cj ?_;first|refine cr ?_|refine bj ?_|refine bc ?_|refine bk ?_|refine aX ?_|refine bu ?_)|(refine gr ?_;first|refine cB ?_|refine fS ?_|refine bq ?_)|(refine aW ?_;first|refine aC _ ?_|refine bt ?_|refine aG ?_|refine aE ?_|refine aJ ?_)|(refine gh ?_;first|refine co ?_|refine b7 ?_|refine cy ?_)|(refine gOp ?_;first|refine gx ?_|refine gd ?_|refine bh ?_|refine fX ?_|refine fW ?_|refine cJ ?_|refine aZ ?_|refine cg ?_|refine gw ?_|refine b8 ?_|refine cL ?_|refine bg ?_|refine aH ?_|refine cD ?_|refine sNo ?_)|refine gC ?_|refine fa ?_|refine gG ?_|refine bA ?_|refine cM ?_|refine bP ?_|refine gL ?_|refine gF ?_|refine gA ?_|refine fm ?_|refine cQ ?_|refine bD ?_|refine aB ?_|refine bB ?_|refine cO ?_|refine bN ?_|refine aBlkX ?_|refine cP ?_)
  refine cIf (fun h2=>?_) (fun h2=>?_)
  ·rw [show dH r a m.nodes=([],[],false) from by unfold dH;rw [h2];rfl]
   repeat (first|(refine ck ?_;first|refine bd ?_|refine cC ?_|refine bo ?_|refine bl ?_|refine aY ?_|refine br ?_|refine bw ?_|refine aK ?_|refine bp ?_)|(refine gv ?_;first|refine cd ?_|refine gg ?_|refine ct ?_|refine cz ?_)|(refine gj ?_;first|refine eV (fun _=>?_)|refine cu ?_|refine cq ?_|refine bT ?_|refine ci ?_|refine cw ?_)|(refine gu ?_;first|refine cK ?_|refine fy ?_|refine cH ?_|refine bY ?_|refine cF ?_|refine cE ?_)|(refine fV ?_;first|refine gq ?_|refine fQ ?_|refine ch ?_|refine cb ?_|refine fZ ?_|refine bf ?_|refine bm ?_)|(refine cm ?_;first|refine be ?_|refine cI ?_)|(refine fY ?_;first|refine iY (d:=6) ?_|refine iY (d:=7) ?_|refine cG ?_|refine cA ?_|refine gm ?_)|(refine cj ?_;first|refine cr ?_|refine bj ?_|refine bc ?_|refine bk ?_|refine aX ?_|refine bu ?_)|(refine gr ?_;first|refine cB ?_|refine fS ?_|refine bq ?_)|(refine aW ?_;first|refine aC _ ?_|refine bt ?_|refine aG ?_|refine aE ?_|refine aJ ?_)|(refine gh ?_;first|refine co ?_|refine b7 ?_|refine cy ?_)|(refine gOp ?_;first|refine gx ?_|refine gd ?_|refine bh ?_|refine fX ?_|refine fW ?_|refine cJ ?_|refine aZ ?_|refine cg ?_|refine gw ?_|refine b8 ?_|refine cL ?_|refine bg ?_|refine sFz 46 ?_|refine sFz 47 ?_|refine aH ?_|refine cD ?_|refine sNo ?_)|refine gC ?_|refine fa ?_|refine gG ?_|refine bA ?_|refine cM ?_|refine bP ?_|refine gL ?_|refine gF ?_|refine gA ?_|refine fm ?_|refine cQ ?_|refine bD ?_|refine aB ?_|refine bB ?_|refine cO ?_|refine bN ?_|refine aBlkX ?_|refine cP ?_|refine sFz 46 ?_|refine sFz 47 ?_)
   exact iN
  ·rw [show dH r a m.nodes=(idxOf (psF a m.nodes) (ap a),bI r.outer (idxOf (psF a m.nodes) (ap a)).length,true) from by unfold dH;rw [h2];rfl]
   have h2:=of_decide_eq_false h2
   revert hq h2
   generalize idxOf (psF a m.nodes) (ap a)=ls
   intro hq h2
   refine kgo ?_
   refine eQ (fun i:Nat=>i≤16∧(kJ r.outer i).length≤ls.length) (fun i=>16 - i) (fun i=>[(3,.sy (.bx 10003 0)),(10003,.tk (.bx (flat r.D))),(9,.sy (.d (DI ls))),(10,.sy (.k 10016)),(10016,.tk (.row 1 9 ((kJ r.outer i).map .s))),(13,.sy (.d (.i i)))]) 0 ⟨by omega,Nat.zero_le _⟩ (fun i hi=>?_)
   obtain ⟨hi1,hi2⟩:=hi
   refine kgo ?_
   refine cIf (fun h3=>?_) (fun h3=>?_)
   ·have h3:=of_decide_eq_true h3
    simp only [List.length_map] at h3
    have hfew:=yO r.outer i (by omega)
    have f2:=xL i (by omega)
    have f3:=wC r.outer ((⟨#[122]⟩:ByteArray) ++ ⟨#[UInt8.ofNat (97+i)]⟩)
    have hb:(⟨#[122]⟩:ByteArray).size+(⟨#[UInt8.ofNat (97+i)]⟩:ByteArray).size≤1000000:=by show 1+1≤1000000;omega
    have hz:=rT ⟨i,by omega⟩
    simp only at hz
    have hsu:=o5 r.outer i
    refine kgo ?_
    refine cIf (fun h4=>?_) (fun h4=>?_)
    ·have h4:=of_decide_eq_true h4
     have hf:kQ r.outer i=true:=by
      rw [hz] at h4
      unfold jC at h4
      unfold kQ
      split at h4
      ·omega
      ·simp_all
     rw [if_pos hf] at hsu
     have hs:(kJ r.outer (i+1)).map D.s=(kJ r.outer i).map D.s++[.s ((⟨#[122]⟩:ByteArray) ++ ⟨#[UInt8.ofNat (97+i)]⟩)]:=by rw [hsu,List.map_append,hz];rfl
     have hl2:(kJ r.outer (i+1)).length≤ls.length:=by rw [hsu,List.length_append];show _+1≤_;omega
     refine kgo ?_
     exact ab (i+1) ⟨by omega,hl2⟩ (by omega)
    ·have h4:=of_decide_eq_false h4
     have hf:¬kQ r.outer i=true:=by
      rw [hz] at h4
      unfold jC at h4
      unfold kQ
      split at h4
      ·simp_all
      ·omega
     rw [if_neg hf] at hsu
     have hs:(kJ r.outer (i+1)).map D.s=(kJ r.outer i).map D.s:=by rw [hsu]
     refine kgo ?_
     exact ab (i+1) ⟨by omega,by rw [hsu];exact hi2⟩ (by omega)
   ·have h3:=of_decide_eq_false h3
    simp only [List.length_map] at h3
    rw [show ls.length=(kJ r.outer i).length by omega,tm r.outer i (by omega)]
    repeat (first|refine cFz 10 ?_|(refine ck ?_;first|refine bd ?_|refine cC ?_|refine bo ?_|refine bl ?_|refine aY ?_|refine br ?_|refine bw ?_|refine aK ?_|refine bp ?_)|(refine gv ?_;first|refine cd ?_|refine gg ?_|refine ct ?_|refine cz ?_)|(refine gj ?_;first|refine eV (fun _=>?_)|refine cu ?_|refine cq ?_|refine bT ?_|refine ci ?_|refine cw ?_)|(refine gu ?_;first|refine cK ?_|refine fy ?_|refine cH ?_|refine bY ?_|refine cF ?_|refine cE ?_)|(refine fV ?_;first|refine gq ?_|refine fQ ?_|refine ch ?_|refine cb ?_|refine fZ ?_|refine bf ?_|refine bm ?_)|(refine cm ?_;first|refine be ?_|refine cI ?_)|(refine fY ?_;first|refine cG ?_|refine cA ?_|refine gm ?_)|(refine cj ?_;first|refine cr ?_|refine bj ?_|refine bc ?_|refine bk ?_|refine aX ?_|refine bu ?_)|(refine gr ?_;first|refine cB ?_|refine fS ?_|refine bq ?_)|(refine aW ?_;first|refine aC _ ?_|refine bt ?_|refine aG ?_|refine aE ?_|refine aJ ?_)|(refine gh ?_;first|refine co ?_|refine b7 ?_|refine cy ?_)|(refine gOp ?_;first|refine gx ?_|refine gd ?_|refine bh ?_|refine fX ?_|refine fW ?_|refine cJ ?_|refine aZ ?_|refine cg ?_|refine gw ?_|refine b8 ?_|refine cL ?_|refine bg ?_|refine aH ?_|refine cD ?_|refine sNo ?_)|refine gC ?_|refine fa ?_|refine gG ?_|refine bA ?_|refine cM ?_|refine bP ?_|refine gL ?_|refine gF ?_|refine gA ?_|refine fm ?_|refine cQ ?_|refine bD ?_|refine aB ?_|refine bB ?_|refine cO ?_|refine bN ?_|refine aBlkX ?_|refine cP ?_)
    exact iN
end Go.Proofs.YtclpbhoekmecjaaGreatDoor
namespace Go.Proofs.YtclpbhoekmecjaaGreatDoor
open Go.RowKit
set_option linter.unusedVariables false
set_option maxRecDepth 100000
set_option maxHeartbeats 4000000
attribute [local irreducible] az Der At
theorem qf (f:Nat→Bool) (i m:Nat) (hf:f i=true):∃rest,(List.range (i+1+m)).filter f=(List.range i).filter f++i :: rest∧∀k∈rest,i<k:=by
 induction m with
 | zero=>exact ⟨[],by rw [Nat.add_zero,List.range_succ,List.filter_append];simp [hf],fun k h=>by cases h⟩
 | succ m ih=>
  obtain ⟨rest,h1,h2⟩:=ih
  rw [← Nat.add_assoc,List.range_succ,List.filter_append,h1]
  refine ⟨rest++[i+1+m].filter f,by rw [List.append_assoc];rfl,fun k hk=>?_⟩
  rcases List.mem_append.1 hk with h|h
  ·exact h2 k h
  ·have:=List.mem_singleton.1 (List.mem_filter.1 h).1
   omega
theorem Dd {α:Type} (f:Nat→Bool) (g g':Nat→α) (i n:Nat) (hi:i<n) (hf:f i=true) (hg:∀k,k≠i→g' k=g k):((List.range n).filter f).map g'=(((List.range n).filter f).map g).set ((List.range i).filter f).length (g' i):=by
 obtain ⟨rest,h1,h2⟩:=qf f i (n - (i+1)) hf
 rw [show i+1+(n - (i+1))=n by omega] at h1
 rw [h1,List.map_append,List.map_append,List.map_cons,List.map_cons,List.set_append_right _ _ (by rw [List.length_map];exact Nat.le_refl _),List.length_map,Nat.sub_self,List.set_cons_zero]
 congr 1
 ·refine List.map_congr_left fun k hk=>hg k ?_
  have:=List.mem_range.1 (List.mem_filter.1 hk).1
  omega
 ·congr 1
  refine List.map_congr_left fun k hk=>hg k ?_
  have:=h2 k hk
  omega
theorem D4 {α:Type} (f:Nat→Bool) (g:Nat→α) (i n:Nat) (hi:i<n) (hf:f i=true):∃h:((List.range i).filter f).length<(((List.range n).filter f).map g).length,(((List.range n).filter f).map g)[((List.range i).filter f).length]=g i:=by
 obtain ⟨rest,h1,h2⟩:=qf f i (n - (i+1)) hf
 rw [show i+1+(n - (i+1))=n by omega] at h1
 have h3:(((List.range n).filter f).map g)[((List.range i).filter f).length]? = some (g i):=by
  rw [h1,List.map_append,List.getElem?_append_right (by rw [List.length_map];exact Nat.le_refl _),List.length_map,Nat.sub_self];rfl
 obtain ⟨h4,h5⟩:=List.getElem?_eq_some_iff.1 h3
 exact ⟨h4,h5⟩
def lN (ps z:List Int) (k:Nat):List Int:=(List.range k).foldl (fun l (i:Nat)=>l.set (atI ps i).toNat (i:Int)) z
theorem pY (ps z:List Int) (k:Nat):lN ps z (k+1)=(lN ps z k).set (atI ps k).toNat k:=by unfold lN;rw [List.range_succ,List.foldl_append];rfl
theorem sb (ps z:List Int) (k:Nat):(lN ps z k).length=z.length:=by
 induction k with
 | zero=>simp [lN]
 | succ k ih=>rw [pY,List.length_set,ih]
def jI (r a:Big) (ns:List Int) (row:List Bool) (lk:List Int) (i k:Nat):Nd:=
 ⟨(eA a k).control,if decide (k<i) && fH ns (eA a k).parent then -1 - kP r ns (eA a k).parent else sO row true false (eA a k).parent,ez lk (eA a k).links⟩
def jN (r a:Big) (ns:List Int) (row:List Bool) (lk:List Int) (i:Nat):List Nd:=((List.range a.nodes.length).filter (tkF row true)).map (jI r a ns row lk i)
def tN (row:List Bool) (i:Nat):Nat:=((List.range i).filter (tkF row true)).length
theorem AX (row:List Bool) (i:Nat):tN row (i+1)=if tkF row true i=true then tN row i+1 else tN row i:=by
 unfold tN
 rw [List.range_succ,List.filter_append]
 by_cases h:tkF row true i=true <;> simp [h]
theorem yu (r a:Big) (ns:List Int) (row:List Bool) (lk:List Int):jN r a ns row lk 0=gE a row true false lk a.nodes.length:=by
 unfold jN gE
 refine List.map_congr_left fun k _=>?_
 unfold jI Fo
 simp
theorem tb (r a:Big) (ns:List Int) (row:List Bool) (lk:List Int) (i k:Nat) (h:k≠i):jI r a ns row lk (i+1) k=jI r a ns row lk i k:=by
 unfold jI
 rw [show decide (k<i+1)=decide (k<i) from decide_eq_decide.2 (by omega)]
theorem wy (r a:Big) (ns:List Int) (row:List Bool) (lk:List Int) (i:Nat) (h:tkF row true i=false∨fH ns (eA a i).parent=false):jN r a ns row lk (i+1)=jN r a ns row lk i:=by
 unfold jN
 refine List.map_congr_left fun k hk=>?_
 by_cases e:k=i
 ·subst e
  rcases h with h|h
  ·rw [(List.mem_filter.1 hk).2] at h;cases h
  ·unfold jI;rw [h];simp
 ·exact tb r a ns row lk i k e
theorem zq (r a:Big) (ns:List Int) (row:List Bool) (lk:List Int) (i:Nat) (hi:i<a.nodes.length) (h1:tkF row true i=true) (h2:fH ns (eA a i).parent=true):∃h:tN row i<(jN r a ns row lk i).length,jN r a ns row lk (i+1)=(jN r a ns row lk i).set (tN row i) ⟨(jN r a ns row lk i)[tN row i].control,-1 - kP r ns (eA a i).parent,(jN r a ns row lk i)[tN row i].links⟩:=by
 obtain ⟨h,e⟩:=D4 (tkF row true) (jI r a ns row lk i) i a.nodes.length hi h1
 refine ⟨h,?_⟩
 have e2:=Dd (tkF row true) (jI r a ns row lk i) (jI r a ns row lk (i+1)) i a.nodes.length hi h1 (fun k hk=>tb r a ns row lk i k hk)
 refine e2.trans ?_
 unfold jN tN
 rw [e]
 congr 1
 unfold jI
 rw [h2];simp
theorem s7 (r:Big) (ns:List Int) (p:Int) (h:0<(ba r (di ns p)).length):0≤kP r ns p∧kP r ns p<r.sites.length:=by
 have h1:kP r ns p∈ba r (di ns p):=uM (by decide) (by omega)
 obtain ⟨i,h2,_,h3⟩:=bz.1 h1
 omega
def F6 (r a:Big) (m:Mat) (ps:List Int) (names:List ByteArray):Big:=
 ⟨r.sites.length,jN r a m.nodes (dS a m.nodes a.nodes.length) (lN ps (List.replicate (ap a) 0) ps.length) a.nodes.length,[],0,names,[]⟩
theorem B1 {sig:List Ctl} {r a:Big} (m:Mat) (hbr:ay sig r=true) (hba:ay sig a=true) (hsite:∀i:Nat,i<a.nodes.length→mI a m.nodes i=true→fH m.nodes (eA a i).parent=true→0<(ba r (di m.nodes (eA a i).parent)).length) (ps:List Int) (names:List ByteArray) (hps:∀l∈ps,0≤l∧l<(ap a:Int)) (hnm:names.length=ps.length) (hpl:ps.length≤500):FnD Tryz.prog 136 [r.D,a.D,m.D,DI ps,DS names] (.d (F6 r a m ps names).D):=by
 have f1:=lw hba m
 have ha:=aU hba
 have hr:=aU hbr
 have hla:a.edges+(a.outer.length:Int)=(ap a:Nat):=by unfold ap;omega
 have hlb:ap a≤1000:=by unfold ap;omega
 have hup:=fun i h=>(iP hba i h).2
 have hnode:=eB hba
 have hnl:∀n∈a.nodes,n.links.length≤1000∧∀l∈n.links,0≤l∧l<(ap a:Int):=fun n hn=>by
  obtain ⟨k,hk,rfl⟩:=List.mem_iff_getElem.1 hn
  obtain ⟨_,_,_,c3,c4⟩:=hnode k hk
  refine ⟨by have:=(bG hba).7 k hk;omega,fun l hl=>?_⟩
  obtain ⟨j,rfl,hj⟩:=gz (c4 l hl)
  omega
 have hz:List.replicate (ap a) (D.i 0)=(lN ps (List.replicate (ap a) 0) 0).map D.i:=by rw [show lN ps (List.replicate (ap a) 0) 0=List.replicate (ap a) 0 from by simp [lN],List.map_replicate]
 have hrrl:(dS a m.nodes a.nodes.length).length=a.nodes.length:=by unfold dS;simp
 have hrr:∀k,k<a.nodes.length→tkF (dS a m.nodes a.nodes.length) true k=mI a m.nodes k:=fun k hk=>by
  rw [rP _ _ _ (by omega)]
  simp [dS]
 unfold F6
 revert f1 hrr hrrl
 generalize dS a m.nodes a.nodes.length=row
 intro f1 hrrl hrr
 refine ai Tryz.func136 (fun hw W0=>?_)
 refine kgo ?_
 refine b8 (n:=ap a) (r:=.i 0) ?_ rfl rfl (congrArg some hla) (congrArg some hla) (hb:=by show 8 * ap a≤1000000000;omega)
 refine kgo ?_
 refine ar [3,4,5,6,7,10,11,12] (fun i:Nat=>i≤ps.length) (fun i=>ps.length - i) (fun i=>[(10027,.tk (.row 1 3 ((lN ps (List.replicate (ap a) 0) i).map .i))),(13,.sy (.d (.i i)))]) 0 (Nat.zero_le _) (fun i hi=>?_)
 refine kgo ?_
 refine aV (fun h=>?_) (fun h=>?_)
 ·have hlt:i<ps.length:=by omega
  have hp:=hps _ (List.getElem_mem hlt)
  obtain ⟨j,hj⟩:=Int.eq_ofNat_of_zero_le hp.1
  have hpt:=sb ps (List.replicate (ap a) 0) i
  rw [List.length_replicate] at hpt
  have hjl:j<(lN ps (List.replicate (ap a) 0) i).length:=by omega
  have hs:=pY ps (List.replicate (ap a) 0) i
  rw [bJ ps i hlt,hj,Int.toNat_natCast] at hs
  refine kgo ?_
  refine bT (n:=j) ?_ rfl rfl rfl (congrArg some hj)
  refine kgo ?_
  rw [← hs]
  exact ab (i+1) hlt (by omega)
 rw [show i=ps.length by omega]
 have hpt:=sb ps (List.replicate (ap a) 0) ps.length
 rw [List.length_replicate] at hpt
 revert hpt
 generalize lN ps (List.replicate (ap a) 0) ps.length=lk
 intro hpt
 have f5:=wd a row true false lk (by omega) (by omega) hup (fun n hn=>(hnl n hn).1) (fun n hn l hl=>by rw [hpt];exact (hnl n hn).2 l hl)
 rw [← yu r a m.nodes row lk] at f5
 repeat (first|refine cFz 12 ?_|(refine ck ?_;first|refine bd ?_|refine cC ?_|refine bo ?_|refine bl ?_|refine aY ?_|refine br ?_|refine bw ?_|refine aK ?_|refine bp ?_)|(refine gv ?_;first|refine cd ?_|refine gg ?_|refine ct ?_|refine cz ?_)|(refine gj ?_;first|refine eV (fun _=>?_)|refine cu ?_|refine cq ?_|refine bT ?_|refine ci ?_|refine cw ?_)|(refine gu ?_;first|refine cK ?_|refine fy ?_|refine cH ?_|refine bY ?_|refine cF ?_|refine cE ?_)|(refine fV ?_;first|refine gq ?_|refine fQ ?_|refine ch ?_|refine cb ?_|refine fZ ?_|refine bf ?_|refine bm ?_)|(refine cm ?_;first|refine be ?_|refine cI ?_)|(refine fY ?_;first|refine cG ?_|refine cA ?_|refine gm ?_)|(refine cj ?_;first|refine cr ?_|refine bj ?_|refine bc ?_|refine bk ?_|refine aX ?_|refine bu ?_)|(refine gr ?_;first|refine cB ?_|refine fS ?_|refine bq ?_)|(refine aW ?_;first|refine aC _ ?_|refine bt ?_|refine aG ?_|refine aE ?_|refine aJ ?_)|(refine gh ?_;first|refine co ?_|refine b7 ?_|refine cy ?_)|(refine gOp ?_;first|refine gx ?_|refine gd ?_|refine bh ?_|refine fX ?_|refine fW ?_|refine cJ ?_|refine aZ ?_|refine cg ?_|refine gw ?_|refine b8 ?_|refine cL ?_|refine bg ?_|refine aH ?_|refine cD ?_|refine sNo ?_)|refine gC ?_|refine fa ?_|refine gG ?_|refine bA ?_|refine cM ?_|refine bP ?_|refine gL ?_|refine gF ?_|refine gA ?_|refine fm ?_|refine cQ ?_|refine bD ?_|refine aB ?_|refine bB ?_|refine cO ?_|refine bN ?_|refine aBlkX ?_|refine cP ?_)
 refine ar [5,6,7,10,11,14] (fun i:Nat=>i≤a.nodes.length) (fun i=>a.nodes.length - i) (fun i=>[(10051,.tk (.row 3 131 ((jN r a m.nodes row lk i).map Nd.D))),(15,.sy (.d (.i (tN row i)))),(16,.sy (.d (.i i)))]) 0 (Nat.zero_le _) (fun i hi=>?_)
 refine kgo ?_
 refine aV (fun h=>?_) (fun h=>?_)
 ·have hlt:i<a.nodes.length:=by omega
  have hltr:i<row.length:=by omega
  have hk:tkF row true i=row[i]:=by rw [rP row true i hltr];simp
  have hcs:=AX row i
  have hcl:tN row i≤i:=by unfold tN;exact Nat.le_trans (List.length_filter_le _ _) (by simp)
  refine kgo ?_
  refine cIf (fun h2=>?_) (fun h2=>?_)
  ·rw [Bool.not_eq_true'] at h2
   rw [h2] at hk
   rw [if_neg (by rw [hk];exact Bool.false_ne_true)] at hcs
   have hs:=wy r a m.nodes row lk i (.inl hk)
   refine kgo ?_
   rw [← hs,← hcs]
   exact ab (i+1) hlt (by omega)
  ·rw [Bool.not_eq_false'] at h2
   rw [h2] at hk
   rw [if_pos hk] at hcs
   have hcd:D.i (tN row (i+1):Nat)=D.i ((tN row i:Nat)+1):=by rw [hcs];rfl
   have hnd:eA a i=a.nodes[i]:=aA a i hlt
   have f6:=mB m.nodes (a.nodes[i]).parent
   refine kgo ?_
   refine cIf (fun h3=>?_) (fun h3=>?_)
   ·rw [← hnd] at h3
    obtain ⟨hcl2,hs⟩:=zq r a m.nodes row lk i hlt hk h3
    have hh:=hsite i hlt (by rw [← hrr i hlt];exact hk) h3
    have f7:=BX r m (eA a i).parent (by omega) h3 hh
    rw [hnd] at f7 hs
    have hsr:=s7 r m.nodes _ hh
    rw [hnd] at hsr
    refine kgo ?_
    refine aC (f:=Nd.D) (l:=jN r a m.nodes row lk i) ⟨(jN r a m.nodes row lk i)[tN row i].control,-1 - kP r m.nodes (a.nodes[i]).parent,(jN r a m.nodes row lk i)[tN row i].links⟩ ?_
    refine kgo ?_
    rw [← hs]
    exact ab (i+1) hlt (by omega)
   ·rw [← hnd] at h3
    have hs:=wy r a m.nodes row lk i (.inr h3)
    refine kgo ?_
    rw [← hs]
    exact ab (i+1) hlt (by omega)
 rw [show i=a.nodes.length by omega]
 refine bP (aB (aB (bN (bD ?_))))
 refine nK 10014 1 ?_
 refine nK 10014 4 ?_
 refine kgo ?_
 exact ax
end Go.Proofs.YtclpbhoekmecjaaGreatDoor
namespace Go.Proofs.YtclpbhoekmecjaaGreatDoor
open Go.RowKit
set_option linter.unusedVariables false
set_option maxRecDepth 100000
set_option maxHeartbeats 4000000
attribute [local irreducible] az Der At
theorem sL {l:List Int} (h:l.Pairwise (· < ·)) {i j:Nat} (hi:i<l.length) (hj:j<l.length) (hij:i<j):l[i]<l[j]:=(List.pairwise_iff_getElem.1 h) i j hi hj hij
theorem tS {l:List Int} (h:l.Pairwise (· < ·)) (e:Nat) (he:e<l.length):di l l[e]=e:=by
 have hm:l[e]∈l:=List.getElem_mem he
 unfold di
 rw [if_pos (cS.2 hm)]
 have hd:l.idxOf l[e]<l.length:=List.idxOf_lt_length_of_mem hm
 have hv:l[l.idxOf l[e]]=l[e]:=List.getElem_idxOf hd
 rcases Nat.lt_trichotomy (l.idxOf l[e]) e with h1|h1|h1
 ·have:=sL h hd he h1;omega
 ·rw [h1]
 ·have:=sL h he hd h1;omega
def lx (ps z:List Int) (base k:Nat):List Int:=(List.range k).foldl (fun l (i:Nat)=>l.set (atI ps i).toNat ((base:Int)+i)) z
theorem mn (ps z:List Int) (base k:Nat):lx ps z base (k+1)=(lx ps z base k).set (atI ps k).toNat ((base:Int)+k):=by unfold lx;rw [List.range_succ,List.foldl_append];rfl
theorem oH (ps z:List Int) (base k:Nat):(lx ps z base k).length=z.length:=by
 induction k with
 | zero=>simp [lx]
 | succ k ih=>rw [mn,List.length_set,ih]
theorem wm {ps z:List Int} (base:Nat) (hi:ps.Pairwise (· < ·)) (h0:∀x∈ps,0≤x∧x<(z.length:Int)):∀k,k≤ps.length→∀e (he:e<ps.length),e<k→atI (lx ps z base k) ps[e]=base+e:=by
 intro k
 induction k with
 | zero=>intro _ e _ h;exact absurd h (Nat.not_lt_zero _)
 | succ k ih=>
  intro hk e he hek
  have hkl:k<ps.length:=by omega
  have b1:=h0 _ (List.getElem_mem he)
  have b2:=h0 _ (List.getElem_mem hkl)
  have hl:=oH ps z base k
  rw [mn,bJ ps k hkl]
  unfold atI
  by_cases e1:e=k
  ·subst e1
   rw [List.getD_eq_getElem?_getD,List.getElem?_set_self (by omega)];rfl
  ·have hlt:=sL hi he hkl (by omega)
   rw [List.getD_eq_getElem?_getD,List.getElem?_set_ne (by omega),← List.getD_eq_getElem?_getD]
   exact ih (by omega) e he (by omega)
theorem BB {f:Nat→Bool} {n:Nat} {k q j:Nat} (hk:k<(idxOf f n).length) (hq:(idxOf f n)[k]=(q:Int)) (hj:j<q) (hf:f j=true):∃e,e<k∧∃he:e<(idxOf f n).length,(idxOf f n)[e]=(j:Int):=by
 obtain ⟨i,hi,_,hqi⟩:=bz.1 (List.getElem_mem hk)
 have hm:(j:Int)∈idxOf f n:=bz.2 ⟨j,by omega,hf,rfl⟩
 obtain ⟨e,he,h1⟩:=List.mem_iff_getElem.1 hm
 refine ⟨e,?_,he,h1⟩
 rcases Nat.lt_trichotomy e k with h|h|h
 ·exact h
 ·subst h;omega
 ·have:=sL (gU f n) hk he h;omega
def dR (p:Big) (list:List Int) (i base:Nat) (q:Int):Nd:=⟨(eA p q).control,if (eA p q).parent<0 then -1 - (i:Int) else (base:Int)+di list (eA p q).parent,(eA p q).links⟩
def dC (p:Big) (cs:List Int):Nat→List Nd
 | 0=>[]
 | i+1=>dC p cs i++(pg p (-1 - atI cs i)).map (dR p (pg p (-1 - atI cs i)) i (dC p cs i).length)
def lZ (cs:List Int) (p:Big):Big:=⟨cs.length,dC p cs cs.length,[],0,p.outer,[]⟩
theorem tG (p:Big) (cs:List Int) (i:Nat):(dC p cs i).length≤i * p.nodes.length:=by
 induction i with
 | zero=>simp [dC]
 | succ i ih=>
  have:=dQ (iC p (-1 - atI cs i)) p.nodes.length
  unfold dC pg
  rw [List.length_append,List.length_map,Nat.succ_mul]
  omega
theorem sq {sig:List Ctl} (r:Rul) {p:Big} (hp:ay sig p=true) (hc:r.copies.length≤100):FnD Tryz.prog 138 [r.D,p.D] (.d (lZ r.copies p).D):=by
 have hd:=aU hp
 have hdm:=bG hp
 refine ai Tryz.func138 (fun hw W0=>?_)
 have hwc:=(wfM hw.1.2.2.1).2
 repeat (first|(refine ck ?_;first|refine bd ?_|refine cC ?_|refine bo ?_|refine bl ?_|refine aY ?_|refine br ?_|refine bw ?_|refine aK ?_|refine bp ?_)|(refine gv ?_;first|refine cd ?_|refine gg ?_|refine ct ?_|refine cz ?_)|(refine gj ?_;first|refine eV (fun _=>?_)|refine cu ?_|refine cq ?_|refine bT ?_|refine ci ?_|refine cw ?_)|(refine gu ?_;first|refine cK ?_|refine fy ?_|refine cH ?_|refine bY ?_|refine cF ?_|refine cE ?_)|(refine fV ?_;first|refine gq ?_|refine fQ ?_|refine ch ?_|refine cb ?_|refine fZ ?_|refine bf ?_|refine bm ?_)|(refine cm ?_;first|refine be ?_|refine cI ?_)|(refine fY ?_;first|refine cG ?_|refine cA ?_|refine gm ?_)|(refine cj ?_;first|refine cr ?_|refine bj ?_|refine bc ?_|refine bk ?_|refine aX ?_|refine bu ?_)|(refine gr ?_;first|refine cB ?_|refine fS ?_|refine bq ?_)|(refine aW ?_;first|refine aC _ ?_|refine bt ?_|refine aG ?_|refine aE ?_|refine aJ ?_)|(refine gh ?_;first|refine co ?_|refine b7 ?_|refine cy ?_)|(refine gOp ?_;first|refine gx ?_|refine gd ?_|refine bh ?_|refine fX ?_|refine fW ?_|refine cJ ?_|refine aZ ?_|refine cg ?_|refine gw ?_|refine b8 ?_|refine cL ?_|refine bg ?_|refine sFz 19 ?_|refine aH ?_|refine cD ?_|refine sNo ?_)|refine gC ?_|refine fa ?_|refine gG ?_|refine bA ?_|refine cM ?_|refine bP ?_|refine gL ?_|refine gF ?_|refine gA ?_|refine fm ?_|refine cQ ?_|refine bD ?_|refine aB ?_|refine bB ?_|refine cO ?_|refine bN ?_|refine aBlkX ?_|refine cP ?_|refine sFz 19 ?_)
 refine ar [2,3,4,5] (fun i:Nat=>i≤r.copies.length) (fun i=>r.copies.length - i) (fun i=>[(10005,.tk (.bx [.d (.i r.copies.length),.k 20001,.d (.n 1),.d (.i 0),.d (DS p.outer),.d (.n 2)])),(20001,.tk (.row 3 131 ((dC p r.copies i).map Nd.D))),(6,.sy (.d (.i i)))]) 0 (Nat.zero_le _) (fun i hi=>?_)
 refine kgo ?_
 refine aV (fun h=>?_) (fun h=>?_)
 ·have hlt:i<r.copies.length:=by omega
  have f1:=zM hp (-1 - r.copies[i])
  have hil:=tG p r.copies i
  have hb1:i * p.nodes.length≤100 * 8:=Nat.mul_le_mul (by omega) hd.2.1
  have hil2:(dC p r.copies i).length≤800:=by omega
  have hz:List.replicate p.nodes.length (D.i 0)=(lx (pg p (-1 - r.copies[i])) (List.replicate p.nodes.length 0) (dC p r.copies i).length 0).map D.i:=by rw [show lx (pg p (-1 - r.copies[i])) (List.replicate p.nodes.length 0) (dC p r.copies i).length 0=List.replicate p.nodes.length 0 from by simp [lx],List.map_replicate]
  have hnext:dC p r.copies (i+1)=dC p r.copies i++(pg p (-1 - r.copies[i])).map (dR p (pg p (-1 - r.copies[i])) i (dC p r.copies i).length):=by rw [← bJ r.copies i hlt];rfl
  have hcb:I64 (-1 - r.copies[i]):=by have:=hwc _ (List.getElem_mem hlt);unfold Wf I64 at this;unfold I64;omega
  repeat (first|(refine ck ?_;first|refine bd ?_|refine cC ?_|refine bo ?_|refine bl ?_|refine aY ?_|refine br ?_|refine bw ?_|refine aK ?_|refine bp ?_)|(refine gv ?_;first|refine cd ?_|refine gg ?_|refine ct ?_|refine cz ?_)|(refine gj ?_;first|refine eV (fun _=>?_)|refine cu ?_|refine cq ?_|refine bT ?_|refine ci ?_|refine cw ?_)|(refine gu ?_;first|refine cK ?_|refine fy ?_|refine cH ?_|refine bY ?_|refine cF ?_|refine cE ?_)|(refine fV ?_;first|refine gq ?_|refine fQ ?_|refine ch ?_|refine cb ?_|refine fZ ?_|refine bf ?_|refine bm ?_)|(refine cm ?_;first|refine be ?_|refine cI ?_)|(refine fY ?_;first|refine iY (d:=7) ?_|refine cG ?_|refine cA ?_|refine gm ?_)|(refine cj ?_;first|refine cr ?_|refine bj ?_|refine bc ?_|refine bk ?_|refine aX ?_|refine bu ?_)|(refine gr ?_;first|refine cB ?_|refine fS ?_|refine bq ?_)|(refine aW ?_;first|refine aC _ ?_|refine bt ?_|refine aG ?_|refine aE ?_|refine aJ ?_)|(refine gh ?_;first|refine co ?_|refine b7 ?_|refine cy ?_)|(refine gOp ?_;first|refine gx ?_|refine gd ?_|refine bh ?_|refine fX ?_|refine fW ?_|refine cJ ?_|refine aZ ?_|refine cg ?_|refine gw ?_|refine b8 ?_|refine cL ?_|refine bg ?_|refine aH ?_|refine cD ?_|refine sNo ?_)|refine gC ?_|refine fa ?_|refine gG ?_|refine bA ?_|refine cM ?_|refine bP ?_|refine gL ?_|refine gF ?_|refine gA ?_|refine fm ?_|refine cQ ?_|refine bD ?_|refine aB ?_|refine bB ?_|refine cO ?_|refine bN ?_|refine aBlkX ?_|refine cP ?_)
  refine b8 (n:=p.nodes.length) (r:=.i 0) ?_ rfl rfl (hb:=by show 8 * p.nodes.length≤1000000000;omega)
  have hul:(pg p (-1 - r.copies[i])).length≤p.nodes.length:=dQ _ _
  have hmem:∀x∈pg p (-1 - r.copies[i]),∃q:Nat,q<p.nodes.length∧iC p (-1 - r.copies[i]) q=true∧x=q:=fun x hx=>bz.1 hx
  have hinc:(pg p (-1 - r.copies[i])).Pairwise (· < ·):=gU _ _
  have hup:∀(k q j:Nat) (hk:k<(pg p (-1 - r.copies[i])).length),(pg p (-1 - r.copies[i]))[k]=(q:Int)→j<q→iC p (-1 - r.copies[i]) j=true→∃e,e<k∧∃he:e<(pg p (-1 - r.copies[i])).length,(pg p (-1 - r.copies[i]))[e]=(j:Int):=fun k q j hk hq hj hf=>BB hk hq hj hf
  generalize hba:(dC p r.copies i).length=base at *
  generalize pg p (-1 - r.copies[i])=lst at *
  have h00:(dC p r.copies i).map Nd.D=(dC p r.copies i++(lst.take 0).map (dR p lst i base)).map Nd.D:=by simp
  refine kgo ?_
  refine ar [2,3,4,5,6,7,8] (fun k:Nat=>k≤lst.length) (fun k=>lst.length - k) (fun k=>[(10005,.tk (.bx [.d (.i r.copies.length),.k 20001,.d (.n 1),.d (.i 0),.d (DS p.outer),.d (.n 2)])),(20001,.tk (.row 3 131 ((dC p r.copies i++(lst.take k).map (dR p lst i base)).map Nd.D))),(10039,.tk (.row 1 3 ((lx lst (List.replicate p.nodes.length 0) base k).map .i))),(9,.sy (.d (.i k)))]) 0 (Nat.zero_le _) (fun k hk=>?_)
  refine kgo ?_
  refine aV (fun h2=>?_) (fun h2=>?_)
  ·have hkl:k<lst.length:=by omega
   obtain ⟨q,hq1,hq2,hq⟩:=hmem _ (List.getElem_mem hkl)
   have hpl:=oH lst (List.replicate p.nodes.length 0) base k
   rw [List.length_replicate] at hpl
   have hs:=mn lst (List.replicate p.nodes.length 0) base k
   rw [bJ lst k hkl,hq,Int.toNat_natCast] at hs
   have hlen:((((dC p r.copies i++(lst.take k).map (dR p lst i base)).map Nd.D).length:Nat):Int)=(base:Int)+k:=by rw [List.length_map,List.length_append,List.length_map,List.length_take,hba];omega
   refine kgo ?_
   refine bT (n:=q) ?_ rfl rfl rfl (congrArg some hq)
   refine kgo ?_
   rw [hlen,← hs]
   refine eV (n:=q) (fun _=>?_) rfl rfl (congrArg some hq)
   have hnd:eA p q=p.nodes[q]:=aA p q hq1
   have hll:=hdm.7 q hq1
   have hut:=iP hp q hq1
   have f2:=E2 (p.nodes[q]).links hll
   have hlen2:(dC p r.copies i++(lst.take k).map (dR p lst i base)).length≤1000:=by rw [List.length_append,List.length_map,List.length_take,hba];omega
   have hs2:∀V:Int,V=(dR p lst i base q).parent→((dC p r.copies i++(lst.take (k+1)).map (dR p lst i base))).map Nd.D=((dC p r.copies i++(lst.take k).map (dR p lst i base))).map Nd.D++[Nd.D ⟨(p.nodes[q]).control,V,(p.nodes[q]).links⟩]:=fun V hV=>by
    simp only [List.take_succ_eq_append_getElem hkl,List.map_append,List.append_assoc,List.map_cons,List.map_nil,hq]
    rw [hV,← hnd];rfl
   have hpl2:=oH lst (List.replicate p.nodes.length 0) base (k+1)
   rw [List.length_replicate] at hpl2
   refine kgo ?_
   refine aV (fun h3=>?_) (fun h3=>?_)
   ·obtain ⟨j,hj⟩:=Int.eq_ofNat_of_zero_le h3
    have hjq:j<q:=by omega
    have huj:iC p (-1 - r.copies[i]) j=true:=by
     rw [oY p _ q hq1,hj,nP hp j (by omega)] at hq2
     rw [oY p _ j (by omega)];exact hq2
    obtain ⟨e,he1,he2,he3⟩:=hup k q j hkl hq hjq huj
    have hv:=wm (z:=List.replicate p.nodes.length 0) base hinc (fun x hx=>by obtain ⟨y,h1,_,h2⟩:=hmem x hx;rw [List.length_replicate];omega) (k+1) hkl e he2 (by omega)
    have hix:=tS hinc e he2
    have hjl:j<(lx lst (List.replicate p.nodes.length 0) base (k+1)).length:=by omega
    rw [he3,bJ _ j hjl] at hv
    rw [he3] at hix
    have hs3:=hs2 ((lx lst (List.replicate p.nodes.length 0) base (k+1))[j]) (by rw [hv];show _=(if (eA p q).parent<0 then _ else _);rw [hnd,hj,if_neg (by omega),hix])
    refine kgo ?_
    refine bT (n:=j) ?_ rfl rfl rfl (congrArg some hj)
    repeat (first|(refine ck ?_;first|refine bd ?_|refine cC ?_|refine bo ?_|refine bl ?_|refine aY ?_|refine br ?_|refine bw ?_|refine aK ?_|refine bp ?_)|(refine gv ?_;first|refine cd ?_|refine gg ?_|refine ct ?_|refine cz ?_)|(refine gj ?_;first|refine eV (fun _=>?_)|refine cu ?_|refine cq ?_|refine bT ?_|refine ci ?_|refine cw ?_)|(refine gu ?_;first|refine cK ?_|refine fy ?_|refine cH ?_|refine bY ?_|refine cF ?_|refine cE ?_)|(refine fV ?_;first|refine gq ?_|refine fQ ?_|refine ch ?_|refine cb ?_|refine fZ ?_|refine bf ?_|refine bm ?_)|(refine cm ?_;first|refine be ?_|refine cI ?_)|(refine fY ?_;first|refine cG ?_|refine cA ?_|refine gm ?_)|(refine cj ?_;first|refine cr ?_|refine bj ?_|refine bc ?_|refine bk ?_|refine aX ?_|refine bu ?_)|(refine gr ?_;first|refine cB ?_|refine fS ?_|refine bq ?_)|(refine aW ?_;first|refine aC _ ?_|refine bt ?_|refine aG ?_|refine aE ?_|refine aJ ?_)|(refine gh ?_;first|refine co ?_|refine b7 ?_|refine cy ?_)|(refine gOp ?_;first|refine gx ?_|refine gd ?_|refine bh ?_|refine fX ?_|refine fW ?_|refine cJ ?_|refine aZ ?_|refine cg ?_|refine gw ?_|refine b8 ?_|refine cL ?_|refine bg ?_|refine sFz 80 ?_|refine aH ?_|refine cD ?_|refine sNo ?_)|refine gC ?_|refine fa ?_|refine gG ?_|refine bA ?_|refine cM ?_|refine bP ?_|refine gL ?_|refine gF ?_|refine gA ?_|refine fm ?_|refine cQ ?_|refine bD ?_|refine aB ?_|refine bB ?_|refine cO ?_|refine bN ?_|refine aBlkX ?_|refine cP ?_|refine sFz 80 ?_)
    exact ab (k+1) hkl (by omega)
   ·have hs3:=hs2 (-1 - (i:Int)) (by show _=(if (eA p q).parent<0 then _ else _);rw [hnd,if_pos (by omega)])
    repeat (first|(refine ck ?_;first|refine bd ?_|refine cC ?_|refine bo ?_|refine bl ?_|refine aY ?_|refine br ?_|refine bw ?_|refine aK ?_|refine bp ?_)|(refine gv ?_;first|refine cd ?_|refine gg ?_|refine ct ?_|refine cz ?_)|(refine gj ?_;first|refine eV (fun _=>?_)|refine cu ?_|refine cq ?_|refine bT ?_|refine ci ?_|refine cw ?_)|(refine gu ?_;first|refine cK ?_|refine fy ?_|refine cH ?_|refine bY ?_|refine cF ?_|refine cE ?_)|(refine fV ?_;first|refine gq ?_|refine fQ ?_|refine ch ?_|refine cb ?_|refine fZ ?_|refine bf ?_|refine bm ?_)|(refine cm ?_;first|refine be ?_|refine cI ?_)|(refine fY ?_;first|refine cG ?_|refine cA ?_|refine gm ?_)|(refine cj ?_;first|refine cr ?_|refine bj ?_|refine bc ?_|refine bk ?_|refine aX ?_|refine bu ?_)|(refine gr ?_;first|refine cB ?_|refine fS ?_|refine bq ?_)|(refine aW ?_;first|refine aC _ ?_|refine bt ?_|refine aG ?_|refine aE ?_|refine aJ ?_)|(refine gh ?_;first|refine co ?_|refine b7 ?_|refine cy ?_)|(refine gOp ?_;first|refine gx ?_|refine gd ?_|refine bh ?_|refine fX ?_|refine fW ?_|refine cJ ?_|refine aZ ?_|refine cg ?_|refine gw ?_|refine b8 ?_|refine cL ?_|refine bg ?_|refine sFz 80 ?_|refine aH ?_|refine cD ?_|refine sNo ?_)|refine gC ?_|refine fa ?_|refine gG ?_|refine bA ?_|refine cM ?_|refine bP ?_|refine gL ?_|refine gF ?_|refine gA ?_|refine fm ?_|refine cQ ?_|refine bD ?_|refine aB ?_|refine bB ?_|refine cO ?_|refine bN ?_|refine aBlkX ?_|refine cP ?_|refine sFz 80 ?_)
    exact ab (k+1) hkl (by omega)
  have hs4:(dC p r.copies i++(lst.take k).map (dR p lst i base)).map Nd.D=(dC p r.copies (i+1)).map Nd.D:=by rw [hnext,List.take_of_length_le (by omega)]
  refine kgo ?_
  exact ab (i+1) hlt (by omega)
 rw [show i=r.copies.length by omega]
 refine bP (aB (aB (bN (bD ?_))))
 refine nK 10005 1 ?_
 refine kgo ?_
 exact ax
end Go.Proofs.YtclpbhoekmecjaaGreatDoor
namespace Go.Proofs.YtclpbhoekmecjaaGreatDoor
open Go.RowKit
set_option linter.unusedVariables false
set_option maxRecDepth 100000
set_option maxHeartbeats 4000000
attribute [local irreducible] az Der At
theorem vX (b:Big) (p:Int) (hl:b.nodes.length≤1048576):FnD Tryz.prog 194 [b.D,.i p] (.d (DI (eH b p))):=⟨bX Tryz.func194,fun F w vs hv hF=>by
 obtain ⟨v1,t,rfl,h1,v2,t2,rfl,⟨h2,_⟩,h3⟩:=hv
 cases (show t2 = [] from h3)
 obtain ⟨cs,rfl,hb⟩:=ne h1
 cases h2
 refine (qQ _ _ _ _ _ _ hb hl).mono ?_
 rintro e w' ⟨v,rfl,hV,hX⟩
 exact ⟨_,rfl,hX,nJ (yG.ofV hV)⟩⟩
end Go.Proofs.YtclpbhoekmecjaaGreatDoor
namespace Go.Proofs.YtclpbhoekmecjaaGreatDoor
open Go.RowKit
set_option linter.unusedVariables false
set_option maxRecDepth 100000
set_option maxHeartbeats 4000000
attribute [local irreducible] az Der At
theorem r9 (n lo hi:Int):FnD Tryz.prog 86 [.i n,.i lo,.i hi] (.d (.b (inR n lo hi))):=by
 refine ai Tryz.func86 (fun hw W0=>?_)
 refine kgo ?_
 cases h:decide (lo≤n)
 ·refine kgo ?_
  rw [show inR n lo hi=false from by unfold inR;rw [h];rfl]
  exact ax
 ·refine kgo ?_
  rw [show inR n lo hi=decide (n≤hi) from by unfold inR;rw [h];rfl]
  exact ax
theorem Gr (b:Big) (n:Int) (hl:b.nodes.length≤1000):FnD Tryz.prog 190 [b.D,.i n] (.d (.b (inR n 0 (b.nodes.length - 1)))):=by
 refine ai Tryz.func190 (fun hw W0=>?_)
 have f1:=r9 n 0 (b.nodes.length - 1)
 refine kgo ?_
 exact ax
theorem zx (b:Big) (n:Int) (hl:b.nodes.length≤1000) (hr:inR b.roots 0 4=true):FnD Tryz.prog 192 [b.D,.i n] (.d (.b (inR n (-b.roots) (b.nodes.length - 1)))):=by
 have hr:=bL hr
 refine ai Tryz.func192 (fun hw W0=>?_)
 have f1:=r9 n (-b.roots) (b.nodes.length - 1)
 refine kgo ?_
 exact ax
theorem ql {r a:Big} {ns:List Int} (i:Nat) (hi:i<ns.length) (h:EH r a ns i=false):qi r a ns=false:=by
 rw [ww,aT _ _ i hi h];simp
theorem uR {n:Int} {k:Nat} (h:inR n 0 ((k:Int) - 1)=true):∃m:Nat,n=(m:Int)∧m<k:=by
 have h:=bL h
 obtain ⟨m,rfl⟩:=Int.eq_ofNat_of_zero_le h.1
 exact ⟨m,rfl,by omega⟩
theorem xV (r a:Big) (ns:List Int) (ha:a.nodes.length≤1000) (hr:r.nodes.length≤1000):FnD Tryz.prog 128 [r.D,a.D,DI ns] (.d (.b (qi r a ns))):=by
 refine ai Tryz.func128 (fun hw W0=>?_)
 refine kgo ?_
 refine lL (fun h=>?_) (fun h=>?_)
 ·refine kgo ?_
  rw [show qi r a ns=false from by unfold qi;rw [decide_eq_false (by omega)];rfl]
  exact ax
 refine kgo ?_
 refine ar [2,3,4] (fun i:Nat=>i≤ns.length∧(List.range i).all (EH r a ns)=true) (fun i=>ns.length - i) (fun i=>[(7,.sy (.d (.i i)))]) 0 ⟨Nat.zero_le _,rfl⟩ (fun i hi=>?_)
 refine kgo ?_
 refine aV (fun h2=>?_) (fun h2=>?_)
 ·have hlt:i<ns.length:=by omega
  have hlr:i<r.nodes.length:=by omega
  have f1:=Gr a ns[i] ha
  have f2:=mB (ns.take i) ns[i]
  have hok:=Fj r a ns i hlt hlr
  refine kgo ?_
  cases h3:inR ns[i] 0 (a.nodes.length - 1)
  ·rw [h3] at hok
   refine kgo ?_
   rw [ql i hlt hok]
   exact ax
  rw [h3] at hok
  refine kgo ?_
  cases h4:fH (ns.take i) ns[i]
  ·rw [h4] at hok
   obtain ⟨k,hk,hka⟩:=uR h3
   rw [hk,aA a k hka] at hok
   refine kgo ?_
   refine eV (n:=k) (fun _=>?_) rfl rfl (congrArg some hk)
   refine kgo ?_
   refine lL (fun h5=>?_) (fun h5=>?_)
   ·rw [decide_eq_false h5] at hok
    refine kgo ?_
    rw [ql i hlt hok]
    exact ax
   ·rw [decide_eq_true h5] at hok
    refine kgo ?_
    exact ab (i+1) ⟨hlt,by rw [cW,hi.2,hok];rfl⟩ (by omega)
  ·rw [h4] at hok
   refine kgo ?_
   rw [ql i hlt hok]
   exact ax
 refine kgo ?_
 rw [show qi r a ns=true from by rw [ww,decide_eq_true (by omega),ff _ _ i (by omega) hi.1 hi.2];rfl]
 exact ax
theorem pN {r a:Big} {ns rs:List Int} (i:Nat) (hi:i<rs.length) (h:jA a ns rs[i]=false):fp r a ⟨ns,rs⟩=false:=by
 unfold fp
 rw [show (⟨ns,rs⟩:Mat).roots.all (jA a ns)=false from List.all_eq_false.2 ⟨_,List.getElem_mem hi,by rw [h];exact Bool.false_ne_true⟩];rfl
theorem ye {sig:List Ctl} (r a:Big) (m:Mat) (hb:ay sig a=true):FnD Tryz.prog 129 [r.D,a.D,m.D] (.d (.b (fp r a m))):=by
 have hd:=bG hb
 refine ai Tryz.func129 (fun hw W0=>?_)
 have hml:=(wfM hw.2.2.1.2.1).1
 refine kgo ?_
 refine ar [3,4,5] (fun i:Nat=>i≤m.roots.length∧(m.roots.take i).all (jA a m.nodes)=true) (fun i=>m.roots.length - i) (fun i=>[(7,.sy (.d (.i i)))]) 0 ⟨Nat.zero_le _,rfl⟩ (fun i hi=>?_)
 refine kgo ?_
 refine aV (fun h2=>?_) (fun h2=>?_)
 ·have hlt:i<m.roots.length:=by omega
  have f1:=zx a m.roots[i] hd.3 hd.1
  have hok:jA a m.nodes m.roots[i]=(inR m.roots[i] (-a.roots) (a.nodes.length - 1) && !g9 a m.nodes m.roots[i]):=rfl
  refine kgo ?_
  cases h3:inR m.roots[i] (-a.roots) (a.nodes.length - 1)
  ·rw [h3] at hok
   refine kgo ?_
   rw [show fp r a m=false from pN i hlt hok]
   exact ax
  rw [h3] at hok
  have f2:=mx hb m m.roots[i] (by have:=bL h3;omega)
  refine kgo ?_
  refine cIf (fun h5=>?_) (fun h5=>?_)
  ·rw [h5] at hok
   refine kgo ?_
   rw [show fp r a m=false from pN i hlt hok]
   exact ax
  ·rw [h5] at hok
   refine kgo ?_
   exact ab (i+1) ⟨hlt,by rw [List.take_succ_eq_append_getElem hlt,List.all_append,hi.2,List.all_cons,hok];rfl⟩ (by omega)
 refine kgo ?_
 rw [show fp r a m=decide ((m.roots.length:Int)=r.roots) from by unfold fp;rw [e9 _ _ i (by omega) hi.2];rfl]
 exact ax
theorem vY (r a:Big) (m:Mat) (i:Nat) (h:i<m.nodes.length) (hr:i<r.nodes.length) (k:Nat) (hk:m.nodes[i]=(k:Int)) (hka:k<a.nodes.length):ou r a m i=decide ((a.nodes[k]).parent=if 0≤(r.nodes[i]).parent then atI m.nodes (r.nodes[i]).parent else atI m.roots (-1 - (r.nodes[i]).parent)):=by
 unfold ou FT
 rw [bJ _ i h,hk,aA a k hka,aA r i hr]
theorem uq {sig:List Ctl} {r a:Big} (m:Mat) (hbr:ay sig r=true) (hba:ay sig a=true) (him:mf r a m.nodes) (hrs:(m.roots.length:Int)=r.roots):FnD Tryz.prog 130 [r.D,a.D,m.D] (.d (.b ((List.range m.nodes.length).all (ou r a m)))):=by
 have hdr:=aU hbr
 refine ai Tryz.func130 (fun hw W0=>?_)
 have hml:=(wfM hw.2.2.1.1).1
 refine kgo ?_
 refine ar [3,4,5] (fun i:Nat=>i≤m.nodes.length∧(List.range i).all (ou r a m)=true) (fun i=>m.nodes.length - i) (fun i=>[(7,.sy (.d (.i i)))]) 0 ⟨Nat.zero_le _,rfl⟩ (fun i hi=>?_)
 refine kgo ?_
 refine aV (fun h2=>?_) (fun h2=>?_)
 ·have hlt:i<m.nodes.length:=by omega
  have hlr:i<r.nodes.length:=by have:=him.len;omega
  obtain ⟨k,hka,hk0,_⟩:=him.at' i hlr
  rw [bJ _ i hlt] at hk0
  have hok:=vY r a m i hlt hlr k hk0 hka
  have hup:=iP hbr i hlr
  refine kgo ?_
  refine aV (fun h3=>?_) (fun h3=>?_)
  ·rw [if_pos h3] at hok
   have hx:(r.nodes[i]).parent<m.nodes.length:=by omega
   refine kgo ?_
   refine eV (n:=k) (fun _=>?_) rfl rfl (congrArg some hk0)
   refine kgo ?_
   refine lL (fun h5=>?_) (fun h5=>?_)
   ·rw [decide_eq_false h5] at hok
    refine kgo ?_
    rw [aT _ _ i hlt hok]
    exact ax
   ·rw [decide_eq_true h5] at hok
    refine kgo ?_
    exact ab (i+1) ⟨hlt,by rw [cW,hi.2,hok];rfl⟩ (by omega)
  ·rw [if_neg h3] at hok
   have hx : -1 - (r.nodes[i]).parent<m.roots.length:=by omega
   refine kgo ?_
   refine eV (n:=k) (fun _=>?_) rfl rfl (congrArg some hk0)
   refine kgo ?_
   refine lL (fun h5=>?_) (fun h5=>?_)
   ·rw [decide_eq_false h5] at hok
    refine kgo ?_
    rw [aT _ _ i hlt hok]
    exact ax
   ·rw [decide_eq_true h5] at hok
    refine kgo ?_
    exact ab (i+1) ⟨hlt,by rw [cW,hi.2,hok];rfl⟩ (by omega)
 refine kgo ?_
 rw [ff _ _ i (by omega) hi.1 hi.2]
 exact ax
theorem lO (b:Big) (p:Int):(ba b p).length≤b.sites.length:=dQ _ _
theorem qy (b:Big) (p:Int):(eH b p).length≤b.nodes.length:=dQ _ _
theorem Cp {r a:Big} (m:Mat) (him:mf r a m.nodes) (dr:uz r) (da:uz a):FnD Tryz.prog 131 [r.D,a.D,m.D] (.d (.b ((List.range m.nodes.length).all (ky r a m)))):=by
 have hsi:=dr.4
 have hno:=da.3
 refine ai Tryz.func131 (fun hw W0=>?_)
 have hml:=(wfM hw.2.2.1.1).1
 refine kgo ?_
 refine ar [3,4,5] (fun i:Nat=>i≤m.nodes.length∧(List.range i).all (ky r a m)=true) (fun i=>m.nodes.length - i) (fun i=>[(7,.sy (.d (.i i)))]) 0 ⟨Nat.zero_le _,rfl⟩ (fun i hi=>?_)
 refine kgo ?_
 refine aV (fun h2=>?_) (fun h2=>?_)
 ·have hlt:i<m.nodes.length:=by omega
  have f1:=vX a m.nodes[i] (by omega)
  have f2:=lV r i (by omega)
  have hk1:=lO r i
  have hk2:=qy a m.nodes[i]
  have hok:ky r a m i=(!(decide ((ba r i).length=0)) || (eH a m.nodes[i]).all (fH m.nodes)):=by unfold ky;rw [bJ _ i hlt]
  have hnext:ky r a m i=true→(List.range (i+1)).all (ky r a m)=true:=fun h=>by rw [cW,hi.2,h];rfl
  refine kgo ?_
  refine ar [3,4,5,7,8] (fun k:Nat=>k≤(eH a m.nodes[i]).length∧(0<k→(ba r i).length=0)∧((eH a m.nodes[i]).take k).all (fH m.nodes)=true) (fun k=>(eH a m.nodes[i]).length - k) (fun k=>[(9,.sy (.d (.i k)))]) 0 ⟨Nat.zero_le _,fun h=>absurd h (by omega),rfl⟩ (fun k hk=>?_)
  refine kgo ?_
  cases h4:decide ((k:Int)<((eH a m.nodes[i]).length:Int))
  ·have h4:=of_decide_eq_false h4
   rw [e9 _ _ k (by omega) hk.2.2,Bool.or_true] at hok
   refine kgo ?_
   exact ab (i+1) ⟨hlt,hnext hok⟩ (by omega)
  have h4:=of_decide_eq_true h4
  have hkl:k<(eH a m.nodes[i]).length:=by omega
  refine kgo ?_
  refine aV (fun h5=>?_) (fun h5=>?_)
  ·have f3:=mB m.nodes (eH a m.nodes[i])[k]
   refine kgo ?_
   refine cIf (fun h6=>?_) (fun h6=>?_)
   ·rw [Bool.not_eq_true'] at h6
    rw [decide_eq_true (by omega),show (eH a m.nodes[i]).all (fH m.nodes)=false from List.all_eq_false.2 ⟨_,List.getElem_mem hkl,by rw [h6];exact Bool.false_ne_true⟩] at hok
    refine kgo ?_
    rw [aT _ _ i hlt hok]
    exact ax
   ·rw [Bool.not_eq_false'] at h6
    refine kgo ?_
    exact ab (k+1) ⟨hkl,fun _=>by omega,by rw [List.take_succ_eq_append_getElem hkl,List.all_append,hk.2.2,List.all_cons,h6];rfl⟩ (by omega)
  ·rw [decide_eq_false (by omega)] at hok
   refine kgo ?_
   exact ab (i+1) ⟨hlt,hnext hok⟩ (by omega)
 refine kgo ?_
 rw [ff _ _ i (by omega) hi.1 hi.2]
 exact ax
theorem DZ {sig:List Ctl} {r a:Big} {ns:List Int} (h:mf r a ns) (hr:ay sig r=true) (ha:ay sig a=true) (l:Int) (j:Nat) (hj:j<(aw r l).length):∃mm:Nat,∃hm:mm<a.nodes.length,(0≤((aw r l)[j]).1∧((aw r l)[j]).1<ns.length)∧atI ns ((aw r l)[j]).1=(mm:Int)∧(0≤((aw r l)[j]).2∧((aw r l)[j]).2<(a.nodes[mm]).links.length)∧dE a ns (aw r l)[j]=atI (a.nodes[mm]).links ((aw r l)[j]).2:=by
 obtain ⟨i,k,hi,hk,_,hq⟩:=dG.1 (List.getElem_mem hj)
 obtain ⟨mm,hm,hl,e1,e2⟩:=h.img hr ha hi hk
 have:=h.len
 refine ⟨mm,hm,by rw [hq];dsimp only;omega,by rw [hq];exact e1,by rw [hq];dsimp only;omega,?_⟩
 rw [hq,e2];exact (bJ _ k hl).symm
theorem yW {sig:List Ctl} {r a:Big} (m:Mat) (l:Nat) (hbr:ay sig r=true) (hba:ay sig a=true) (him:mf r a m.nodes) (hp0:aw r l≠[]):FnD Tryz.prog 196 [r.D,a.D,m.D,.i l] (.tp [.i (jd r a m.nodes l),.b (dZ r a m.nodes l)]):=by
 have dr:=bG hbr
 have da:=bG hba
 have h0:0<(aw r l).length:=List.length_pos_iff.2 hp0
 have hpa:=DZ him hbr hba l
 have hpl:=eY r l dr.3 dr.7
 have f1:=lP r l dr.3 dr.7
 have f2:=lP a (jd r a m.nodes l) da.3 da.7
 have hpl2:=eY a (jd r a m.nodes l) da.3 da.7
 have hhead:jd r a m.nodes l=dE a m.nodes (aw r l)[0]:=oc _ _ _ h0
 have hla:dZ r a m.nodes l=((aw r l).all (fun q=>decide (dE a m.nodes q=jd r a m.nodes l)) && (!(decide ((l:Int)<r.edges)) || (decide (jd r a m.nodes l<a.edges) && decide ((aw a (jd r a m.nodes l)).length=(aw r l).length)))):=rfl
 obtain ⟨m0,hm0,q1,q2,q3,q4⟩:=hpa 0 h0
 rw [q4] at hhead
 revert hla f2 hpl2 hhead
 generalize jd r a m.nodes l=im
 generalize dZ r a m.nodes l=la
 generalize aw r l=ps at *
 intro f2 hpl2 hla hhead
 refine ai Tryz.func196 (fun hw W0=>?_)
 refine kgo ?_
 refine eV (n:=m0) (fun _=>?_) rfl rfl (congrArg some q2)
 refine kgo ?_
 rw [← hhead]
 refine ar [3,4,5,6,10,11] (fun j:Nat=>1≤j∧j≤ps.length∧(ps.take j).all (fun q=>decide (dE a m.nodes q=im))=true) (fun j=>ps.length - j) (fun j=>[(12,.sy (.d (.i j)))]) 1 ⟨Nat.le_refl _,h0,by rw [List.take_succ_eq_append_getElem h0,List.take_zero,List.nil_append,List.all_cons,q4,hhead,decide_eq_true rfl];rfl⟩ (fun j hj=>?_)
 refine kgo ?_
 refine aV (fun h2=>?_) (fun h2=>?_)
 ·have hlt:j<ps.length:=by omega
  obtain ⟨mj,hmj,p1,p2,p3,p4⟩:=hpa j hlt
  refine kgo ?_
  refine eV (n:=mj) (fun _=>?_) rfl rfl (congrArg some p2)
  refine kgo ?_
  rw [← p4]
  refine lL (fun h5=>?_) (fun h5=>?_)
  ·rw [show ps.all (fun q=>decide (dE a m.nodes q=im))=false from List.all_eq_false.2 ⟨_,List.getElem_mem hlt,by rw [decide_eq_false h5];exact Bool.false_ne_true⟩,Bool.false_and] at hla
   refine kgo ?_
   rw [hla]
   exact iN
  ·refine kgo ?_
   exact ab (j+1) ⟨by omega,hlt,by rw [List.take_succ_eq_append_getElem hlt,List.all_append,hj.2.2,List.all_cons,decide_eq_true h5];rfl⟩ (by omega)
 rw [e9 _ _ j (by omega) hj.2.2,Bool.true_and] at hla
 refine kgo ?_
 refine aV (fun h3=>?_) (fun h3=>?_)
 ·rw [decide_eq_true h3,Bool.not_true,Bool.false_or] at hla
  refine kgo ?_
  cases h4:decide (im<a.edges)
  ·rw [h4] at hla
   refine kgo ?_
   rw [hla]
   exact iN
  ·rw [h4] at hla
   refine kgo ?_
   rw [hla]
   rw [show decide ((aw a im).length=ps.length)=decide (((aw a im).length:Int)=(ps.length:Int)) from decide_eq_decide.2 (by omega)]
   exact iN
 ·rw [decide_eq_false h3] at hla
  refine kgo ?_
  rw [hla]
  exact iN
theorem xv {sig:List Ctl} {r a:Big} (m:Mat) (hbr:ay sig r=true) (hba:ay sig a=true) (him:mf r a m.nodes) (hp0:∀l:Nat,l<ap r→aw r l≠[]):FnD Tryz.prog 132 [r.D,a.D,m.D] (.tp [DI (ly r a m.nodes),.b (dO r a m.nodes)]):=by
 have hdr:=aU hbr
 have hlr:r.edges+(r.outer.length:Int)=(ap r:Nat):=by unfold ap;omega
 have hlb:ap r≤1000:=by unfold ap;omega
 refine ai Tryz.func132 (fun hw W0=>?_)
 refine kgo ?_
 refine ar [3,4,5] (fun i:Nat=>i≤ap r∧(List.range i).all (dZ r a m.nodes)=true) (fun i=>ap r - i) (fun i=>[(8,.sy (.k 20001)),(20001,.tk (.row 1 3 ((dP r a m.nodes i).map .i))),(9,.sy (.d (.i i)))]) 0 ⟨Nat.zero_le _,rfl⟩ (fun i hi=>?_)
 refine kgo ?_
 refine aV (fun h=>?_) (fun h=>?_)
 ·have hlt:i<ap r:=by omega
  have f1:=yW m i hbr hba him (hp0 i hlt)
  have hs:(dP r a m.nodes (i+1)).map D.i=(dP r a m.nodes i).map D.i++[.i (jd r a m.nodes i)]:=by rw [lj,List.map_append];rfl
  have hil:(dP r a m.nodes i).length=i:=by unfold dP;simp
  refine kgo ?_
  refine cIf (fun h2=>?_) (fun h2=>?_)
  ·rw [Bool.not_eq_true'] at h2
   have hb:=kj hlt h2
   rw [jM hb,hb]
   repeat (first|(refine ck ?_;first|refine bd ?_|refine cC ?_|refine bo ?_|refine bl ?_|refine aY ?_|refine br ?_|refine bw ?_|refine aK ?_|refine bp ?_)|(refine gv ?_;first|refine cd ?_|refine gg ?_|refine ct ?_|refine cz ?_)|(refine gj ?_;first|refine eV (fun _=>?_)|refine cu ?_|refine cq ?_|refine bT ?_|refine ci ?_|refine cw ?_)|(refine gu ?_;first|refine cK ?_|refine fy ?_|refine cH ?_|refine bY ?_|refine cF ?_|refine cE ?_)|(refine fV ?_;first|refine gq ?_|refine fQ ?_|refine ch ?_|refine cb ?_|refine fZ ?_|refine bf ?_|refine bm ?_)|(refine cm ?_;first|refine be ?_|refine cI ?_)|(refine fY ?_;first|refine iY (d:=6) ?_|refine cG ?_|refine cA ?_|refine gm ?_)|(refine cj ?_;first|refine cr ?_|refine bj ?_|refine bc ?_|refine bk ?_|refine aX ?_|refine bu ?_)|(refine gr ?_;first|refine cB ?_|refine fS ?_|refine bq ?_)|(refine aW ?_;first|refine aC _ ?_|refine bt ?_|refine aG ?_|refine aE ?_|refine aJ ?_)|(refine gh ?_;first|refine co ?_|refine b7 ?_|refine cy ?_)|(refine gOp ?_;first|refine gx ?_|refine gd ?_|refine bh ?_|refine fX ?_|refine fW ?_|refine cJ ?_|refine aZ ?_|refine cg ?_|refine gw ?_|refine b8 ?_|refine cL ?_|refine bg ?_|refine aH ?_|refine cD ?_|refine sNo ?_)|refine gC ?_|refine fa ?_|refine gG ?_|refine bA ?_|refine cM ?_|refine bP ?_|refine gL ?_|refine gF ?_|refine gA ?_|refine fm ?_|refine cQ ?_|refine bD ?_|refine aB ?_|refine bB ?_|refine cO ?_|refine bN ?_|refine aBlkX ?_|refine cP ?_)
   exact iN
  ·rw [Bool.not_eq_false'] at h2
   refine kgo ?_
   exact ab (i+1) ⟨hlt,by rw [cW,hi.2,h2];rfl⟩ (by omega)
 have hb:dO r a m.nodes=true:=ff _ _ i (by omega) hi.1 hi.2
 rw [iT hb,hb,show aF r a m.nodes=dP r a m.nodes i from by rw [show i=ap r by omega];rfl]
 repeat (first|(refine ck ?_;first|refine bd ?_|refine cC ?_|refine bo ?_|refine bl ?_|refine aY ?_|refine br ?_|refine bw ?_|refine aK ?_|refine bp ?_)|(refine gv ?_;first|refine cd ?_|refine gg ?_|refine ct ?_|refine cz ?_)|(refine gj ?_;first|refine eV (fun _=>?_)|refine cu ?_|refine cq ?_|refine bT ?_|refine ci ?_|refine cw ?_)|(refine gu ?_;first|refine cK ?_|refine fy ?_|refine cH ?_|refine bY ?_|refine cF ?_|refine cE ?_)|(refine fV ?_;first|refine gq ?_|refine fQ ?_|refine ch ?_|refine cb ?_|refine fZ ?_|refine bf ?_|refine bm ?_)|(refine cm ?_;first|refine be ?_|refine cI ?_)|(refine fY ?_;first|refine iY (d:=6) ?_|refine cG ?_|refine cA ?_|refine gm ?_)|(refine cj ?_;first|refine cr ?_|refine bj ?_|refine bc ?_|refine bk ?_|refine aX ?_|refine bu ?_)|(refine gr ?_;first|refine cB ?_|refine fS ?_|refine bq ?_)|(refine aW ?_;first|refine aC _ ?_|refine bt ?_|refine aG ?_|refine aE ?_|refine aJ ?_)|(refine gh ?_;first|refine co ?_|refine b7 ?_|refine cy ?_)|(refine gOp ?_;first|refine gx ?_|refine gd ?_|refine bh ?_|refine fX ?_|refine fW ?_|refine cJ ?_|refine aZ ?_|refine cg ?_|refine gw ?_|refine b8 ?_|refine cL ?_|refine bg ?_|refine aH ?_|refine cD ?_|refine sNo ?_)|refine gC ?_|refine fa ?_|refine gG ?_|refine bA ?_|refine cM ?_|refine bP ?_|refine gL ?_|refine gF ?_|refine gA ?_|refine fm ?_|refine cQ ?_|refine bD ?_|refine aB ?_|refine bB ?_|refine cO ?_|refine bN ?_|refine aBlkX ?_|refine cP ?_)
 exact iN
theorem zO {sig:List Ctl} {r a:Big} (m:Mat) (hbr:ay sig r=true) (hba:ay sig a=true) (hp0:∀l:Nat,l<ap r→aw r l≠[]):FnD Tryz.prog 92 [r.D,a.D,m.D] (.d (.b (eW r a m))):=by
 have dr:=bG hbr
 have da:=bG hba
 have f1:=xV r a m.nodes da.3 dr.3
 have f2:=ye r a m hba
 have hm:eW r a m=((qi r a m.nodes && fp r a m) && ((List.range m.nodes.length).all (ou r a m) && ((List.range m.nodes.length).all (ky r a m) && dO r a m.nodes))):=rfl
 have f3:qi r a m.nodes=true→fp r a m=true→FnD Tryz.prog 130 [r.D,a.D,m.D] (.d (.b ((List.range m.nodes.length).all (ou r a m)))):=fun h1 h2=>uq m hbr hba (jP h1) (mz h2)
 have f4:qi r a m.nodes=true→FnD Tryz.prog 131 [r.D,a.D,m.D] (.d (.b ((List.range m.nodes.length).all (ky r a m)))):=fun h1=>Cp m (jP h1) dr da
 have f5:qi r a m.nodes=true→FnD Tryz.prog 132 [r.D,a.D,m.D] (.tp [DI (ly r a m.nodes),.b (dO r a m.nodes)]):=fun h1=>xv m hbr hba (jP h1) hp0
 refine ai Tryz.func92 (fun hw W0=>?_)
 rw [hm]
 refine kgo ?_
 cases h1:qi r a m.nodes
 ·refine kgo ?_
  exact ax
 have f4:=f4 h1
 have f5:=f5 h1
 refine kgo ?_
 cases h2:fp r a m
 ·refine kgo ?_
  exact ax
 have f3:=f3 h1 h2
 refine kgo ?_
 cases h3:(List.range m.nodes.length).all (ou r a m)
 ·refine kgo ?_
  exact ax
 refine kgo ?_
 cases h4:(List.range m.nodes.length).all (ky r a m)
 ·refine kgo ?_
  exact ax
 refine kgo ?_
 exact ax
end Go.Proofs.YtclpbhoekmecjaaGreatDoor
namespace Go.Proofs.YtclpbhoekmecjaaGreatDoor
open Go.RowKit
set_option linter.unusedVariables false
set_option linter.unusedSimpArgs false
theorem ro (z:Array Value) (n j t:Nat) (u:Value) (hj:j<n) (ht:z.toList[t]? = some u):(madeCells z (n * z.size)).toList[j * z.size+t]? = some u:=by
 obtain ⟨h1,h2⟩:=List.getElem?_eq_some_iff.1 ht
 rw [Array.length_toList] at h1
 have h3:j * z.size+t<n * z.size:=by
  have:(j+1) * z.size≤n * z.size:=Nat.mul_le_mul_right _ hj
  rw [Nat.succ_mul] at this;omega
 unfold madeCells
 rw [Array.getElem?_toList,Array.getElem?_map,Array.getElem?_range,if_pos h3]
 simp only [Option.map_some]
 rw [Nat.mul_comm,Nat.mul_add_mod,Nat.mod_eq_of_lt h1,getElem!_pos z t h1]
 rw [Array.getElem_toList] at h2
 rw [h2]
section
variable {P:Program} {ops:Array Oper} {W0:cf} {N:Nat} {Fin:Us→Env→Prop} {os:List Oper} {us:Us} {pk fk:List Nat} {σ:Env} {g:Option (Nat × Bool)} {gk:List Nat} {d ty ty':Nat} {pos:String} {after:Array Edge}
theorem m7 {x y:Operand} {s t:Sy} {e n k:Nat} {ti:TypeInfo} {z:Value} (r:D) (h:Der P ops W0 N Fin os (us++[((d :: (gk++((10000+d) :: (kx x++kx y))))++pk,([d,10000+d])++fk)]) [] [] ((d,.sy (.k (10000+d))) :: (10000+d,.tk (.row k e (List.replicate n r))) :: σ)) (hx:ev σ x=some s:=by rfl) (hy:ev σ y=some t:=by rfl) (hm:s.int? = some (n:Int):=by rfl) (hm':t.int? = some (n:Int):=by rfl) (hf:au σ (10000+d)=none:=by rfl) (he:elem? P ty'=some e:=by rfl) (hti:P.info? e=some ti:=by rfl) (htz:ti.zero=some z:=by rfl) (hsz:ti.size=k:=by rfl) (hzl:z.cells.toList.length=k:=by rfl) (hzr:zok r z.cells.toList=true:=by rfl) (hb:ti.bytes * n≤1000000000) (hn:n≤1000000000:=by omega) (hg:gst ops σ g=some (true,gk):=by rfl) (hN:Nat.blt d N=true:=by rfl) (hs:aM ((10000+d,.tk (.row k e (List.replicate n r))) :: σ) d=true:=by rfl) (hu:Nat.beq (10000+d) d=false:=by rfl):Der P ops W0 N Fin (⟨some d,.makeSlice ty' x y,ty,pos,after,g⟩ :: os) us pk fk σ:=by
 refine me (.k (10000+d)) ((10000+d) :: (kx x++kx y)) [(10000+d,.tk (.row k e (List.replicate n r)))] (fun σ' c a w hk hc=>?_) h hg hN hs (by simp [hu])
 have h1:=ex hm (av hc (af hx (fun κ hκ=>hk κ (by simp [hκ]))))
 have h2:=ex hm' (av hc (af hy (fun κ hκ=>hk κ (by simp [hκ]))))
 have hml:n≤maxLen:=Nat.le_trans hn (Nat.le_of_ble_eq_true rfl)
 obtain ⟨w',h3,h4,h5⟩:=run_make_full (P:=P) w w.heap.size ty' e ti z k (eD he) hti htz hsz .i64 .i64 n (by omega) hml (Nat.le_refl _)
 have hrz:∀S,Rp w' S r z.cells.toList:=fun S=>pJ r _ hzr
 have hX:Ext w w':=⟨h5.os,h5.tape,h5.output,h5.size,fun b hb=>h5.block b hb (by simp)⟩
 have hc1:=hc.grow hX c.F (fun _ h=>h) (fun _ h=>.inl h) (fun b hb=>Nat.lt_of_lt_of_le (hc.lt b hb) (Below.size hX))
 have hrun:(execOp a.eval ⟨some d,.makeSlice ty' x y,ty,pos,after,g⟩).run P w=.ok (.value (.slice (some ⟨w.heap.size,0,none⟩) n n)) w':=d7 (X:=Instr.makeSlice ty' (a.eval x) (a.eval y)) (by rw [h1,h2];exact h3)
 unfold Oper.wp
 rw [hrun]
 have hlt:=h4.lt w.heap.size rfl
 rw [Array.length_toList] at hzl
 subst hzl
 refine ⟨_,_,rfl,hc1.new (i:=10000+d) (t:=.row z.cells.size e (List.replicate n r)) (v:=.slice (some ⟨w.heap.size,0,none⟩) n n) (S:=fun b=>b=w.heap.size) ((hk _ (by simp)).trans hf) (.inr ⟨(madeCells z.cells (n * z.cells.size)).toList,?_,fun g hg=>by cases hg;rfl,fun j hj=>?_⟩) (fun b hb=>⟨fun hF=>?_,?_⟩) (fun j u hj b hb hT=>?_),.inr rfl,(if_pos rfl).symm⟩
 ·rw [List.length_replicate]
  exact ⟨h4.1,h4.2.imp id (fun ⟨g,cap,cur,q1,_,q2⟩=>⟨g,cap,cur,q1,Nat.zero_le _,q2⟩)⟩
 ·rw [List.length_replicate] at hj
  exact ⟨z.cells.toList,by rw [Array.length_toList],by rw [List.getElem_replicate];exact hrz _,fun t u ht=>ro z.cells n j t u hj ht⟩
 ·subst hb;exact absurd (hc.lt _ hF) (Nat.lt_irrefl _)
 ·subst hb;exact ⟨hlt.2,.inr hc.ext.size⟩
 ·subst hb;exact absurd ((hc.tok j u hj).2.2 _ hT).2.1 (Nat.lt_irrefl _)
theorem Ev {α:Type} {f:α→D} {l:List α} (x':α) {x y:Operand} {i z n e:Nat} {ds:List D} (h:Der P ops W0 N Fin os (us++[((gk++(i :: (kx x++kx y)))++pk,([i])++fk)]) [] [] ((i,.tk (.row z e ((l.set n x').map f))) :: σ)) (hx:ev σ x=some (.el i z n 0):=by rfl) (hi:au σ i=some (.tk (.row z e (l.map f))):=by rfl) (hy:ev σ y=some (.d (.t ds)):=by rfl) (hq:f x'=.t ds:=by rfl) (hlt:n<l.length:=by first|assumption|omega) (hz:sizeOf? P ty'=some z:=by rfl) (hzs:szs ds=z:=by rfl) (hg:gst ops σ g=some (true,gk):=by rfl):Der P ops W0 N Fin (⟨none,.store ty' x y,ty,pos,after,g⟩ :: os) us pk fk σ:=
 lI (i :: (kx x++kx y)) [(i,.tk (.row z e ((l.set n x').map f)))] (fun σ' c a w hk hc=>by
  obtain ⟨hAi,b,m,cp,e1,e2⟩:=av hc (af hx (fun κ hκ=>hk κ (by simp [hκ])))
  have hi':=(hk i (by simp)).trans hi
  obtain ⟨_,hT,hlt'⟩:=hc.tok i _ hi'
  rcases hT with ⟨hd,_⟩|⟨cells,own,hS,hel⟩
  ·rw [List.map_eq_nil_iff] at hd;subst hd;exact absurd hlt (Nat.not_lt_zero _)
  obtain ⟨us',e7,e8⟩:=av hc (af hy (fun κ hκ=>hk κ (by simp [hκ])))
  have hul:us'.length=z:=(RpL.len _ _ e8).trans hzs
  rw [e1] at own
  have hcs:cells.length=(l.map f).length * z:=own.1
  rw [List.length_map] at hcs
  have hin:n * z+z≤l.length * z:=by rw [← Nat.succ_mul];exact Nat.mul_le_mul_right z hlt
  have own':w.ownsRow 0 e z (.slice (some ⟨b,0,none⟩) (l.map f).length cp) (l.map f).length cells:=by
   rcases own.2 with ⟨hv0,_⟩|⟨gb,cap,cur,hv0,rest⟩
   ·cases hv0
   ·cases hv0;exact own
  have hb:c.T i b:=hS b (by rw [e1];rfl)
  have h1:us'.all (·.oneCell')=true:=List.all_eq_true.2 (fun u hu=>RpL.one _ _ e8 u hu)
  have h2:(Instr.storeAt ty' (.pointer (some ⟨b,n * z,none⟩)) (.agg us'.toArray)).run P w=.ok () (rJ w b (n * z) us'):=by
   rw [run_storeAt_mid w b (n * z) ty' us'.toArray (fun j hj=>?_) (by simpa [hul] using cZ hz) (all_oneCell_toArray (by simpa using h1)),jt]
   have hj':n * z+j<cells.length:=by simp at hj;omega
   have q5:=World.ownsRow.cellAt (h:=own') (n * z+j) (by rw [List.length_map,← hcs];exact hj')
   rw [List.getElem?_eq_getElem hj'] at q5
   exact ⟨by rw [q5];rfl,World.ownsRow.frozenAt (h:=own') (n * z+j)⟩
  obtain ⟨q7,q8⟩:=DO us' w (n * z) cells own'
  have hrun:(execOp a.eval ⟨none,.store ty' x y,ty,pos,after,g⟩).run P w=.ok .skip (rJ w b (n * z) us'):=qT (X:=Instr.storeAt ty' (a.eval x) (a.eval y)) (by rw [e2,e7];exact h2)
  unfold Oper.wp
  rw [hrun]
  have hm : .slice (some ⟨b,0,none⟩) m cp=Value.slice (some ⟨b,0,none⟩) (l.map f).length cp:=by
   rcases own.2 with ⟨hv0,_⟩|⟨gb,cap,cur,hv0,rest⟩
   ·cases hv0
   ·cases hv0;rfl
  refine ⟨rfl,c,hc.upd hi' (Chg.grown q8 (fun g hg=>by cases hg;exact hb)) (iK _ _ _ _) (fun hag=>.inr ⟨ka cells (n * z) us',?_,hS,fun j hj=>?_⟩)⟩
  ·rw [e1,hm]
   simp only [List.length_map,List.length_set] at q7 ⊢
   exact q7
  ·simp only [List.length_map,List.length_set] at hj
   by_cases hjn:j=n
   ·subst hjn
    refine ⟨us',hul,?_,fun t u ht=>kk us' cells (j * z) t u (by omega) ht⟩
    rw [List.getElem_map,List.getElem_set_self,hq]
    exact RpL.keep (fun _ h=>h) hag _ _ e8
   ·obtain ⟨cs',p1,p2,p3⟩:=hel j (by rw [List.length_map];exact hj)
    rw [List.getElem_map] at p2
    refine ⟨cs',p1,?_,fun t u ht=>?_⟩
    ·rw [List.getElem_map,List.getElem_set_ne (Ne.symm hjn)]
     exact Rp.keep (fun _ h=>h) hag _ _ p2
    ·rw [iW us' cells (n * z) (j * z+t) ?_]
     ·exact p3 t u ht
     ·have htz:t<z:=by
       rcases Nat.lt_or_ge t z with h|h
       ·exact h
       ·rw [List.getElem?_eq_none (by omega)] at ht;cases ht
      rcases Nat.lt_trichotomy j n with h|h|h
      ·left
       have:(j+1) * z≤n * z:=Nat.mul_le_mul_right z h
       rw [Nat.succ_mul] at this;omega
      ·exact absurd h hjn
      ·right
       have:(n+1) * z≤j * z:=Nat.mul_le_mul_right z h
       rw [Nat.succ_mul] at this;omega) h hg
end
end Go.Proofs.YtclpbhoekmecjaaGreatDoor
